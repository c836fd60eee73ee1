/- Part 8 of the library of this proof. -/
import Derived.Test.YtleahcdojjeinaaGreatDoorW7
import Derived.Shelf.Small.Strs
import Derived.Shelf.Strconv.Itoa3
import Derived.Shelf.Strconv.Atoi
import Derived.Shelf.Strconv.ErrVarAll
import Derived.Lib.AppendIntMem
import Derived.Shelf.Strings.Prefix
import Derived.Test.YtleahcdojjeinaaGreatDoorProg
import Derived.Calls
set_option linter.all false
namespace Go.Proofs
open Go.Shelf
def Tryz.lays169_ren : Go.Shelf.Ren := ⟨fun | 169 => 21 | n => n, fun | 70 => 47 | 9 => 9 | 0 => 0 | 72 => 50 | 37 => 48 | 127 => 97 | 3 => 3 | 5 => 5 | n => n, fun | n => n⟩
theorem Tryz.lays169 : Go.Proofs.Lays.n169 Tryz.prog Tryz.lays169_ren := {
  mixed := by kernel_rfl
  f169 := Tryz.func21.trans (congrArg some (by kernel_rfl))
  t0 := Tryz.underlying0
  a0 := Tryz.isAgg0
  z0 := Tryz.sizeOf0
  v0 := Tryz.zeroValue0
  t3 := Tryz.underlying3
  a3 := Tryz.isAgg3
  z3 := Tryz.sizeOf3
  v3 := Tryz.zeroValue3
  t9 := Tryz.underlying9
  a9 := Tryz.isAgg9
  z9 := Tryz.sizeOf9
  v9 := Tryz.zeroValue9
  t37 := Tryz.underlying48
  a37 := Tryz.isAgg48
  z37 := Tryz.sizeOf48
  v37 := Tryz.zeroValue48
  t70 := Tryz.underlying47
  a70 := Tryz.isAgg47
  z70 := Tryz.sizeOf47
  v70 := Tryz.zeroValue47
  t72 := Tryz.underlying50
  a72 := Tryz.isAgg50
  z72 := Tryz.sizeOf50
  v72 := Tryz.zeroValue50
  t127 := Tryz.underlying97
  a127 := Tryz.isAgg97
  z127 := Tryz.sizeOf97
  v127 := Tryz.zeroValue97 }
theorem Tryz.Builder_Extra_169 : Builder.Extra Tryz.prog Tryz.lays169_ren := {
  sizeBuilder := by kernel_rfl
  liesBuilder := by kernel_rfl
  t5 := Tryz.underlying5
  a5 := Tryz.isAgg5
  z5 := Tryz.sizeOf5
  v5 := Tryz.zeroValue5
  infoByte := by kernel_rfl
  cellsByte := by kernel_rfl
  sizeByte := by kernel_rfl
  neB5 := by decide }
def Tryz.lays137_ren : Go.Shelf.Ren := ⟨fun | 137 => 48 | 217 => 65 | 266 => 77 | n => n, fun | 9 => 9 | 5 => 5 | 3 => 3 | n => n, fun | n => n⟩
theorem Tryz.lays137 : Go.Proofs.Lays.n137 Tryz.prog Tryz.lays137_ren := {
  mixed := by kernel_rfl
  f137 := Tryz.func48.trans (congrArg some (by kernel_rfl))
  f217 := Tryz.func65.trans (congrArg some (by kernel_rfl))
  f266 := Tryz.func77.trans (congrArg some (by kernel_rfl))
  t3 := Tryz.underlying3
  a3 := Tryz.isAgg3
  z3 := Tryz.sizeOf3
  v3 := Tryz.zeroValue3
  t5 := Tryz.underlying5
  a5 := Tryz.isAgg5
  z5 := Tryz.sizeOf5
  v5 := Tryz.zeroValue5
  t9 := Tryz.underlying9
  a9 := Tryz.isAgg9
  z9 := Tryz.sizeOf9
  v9 := Tryz.zeroValue9 }
def Tryz.lays172_ren : Go.Shelf.Ren := ⟨fun | 172 => 66 | 244 => 78 | 245 => 79 | 247 => 83 | 279 => 84 | 280 => 85 | 281 => 86 | 282 => 87 | 287 => 92 | 316 => 93 | 171 => 58 | 205 => 94 | 321 => 100 | 322 => 101 | 243 => 71 | 246 => 81 | 283 => 88 | 284 => 89 | 285 => 90 | 286 => 91 | 129 => 96 | 317 => 95 | 318 => 97 | 319 => 98 | 320 => 99 | 337 => 102 | 338 => 103 | n => n, fun | 9 => 9 | 3 => 3 | 75 => 61 | 76 => 64 | 4 => 4 | 5 => 5 | 167 => 137 | 37 => 48 | 0 => 0 | 85 => 138 | 2 => 2 | 168 => 140 | 53 => 144 | 175 => 149 | 46 => 151 | 210 => 154 | 127 => 97 | 145 => 165 | 143 => 163 | 21 => 21 | 171 => 143 | 173 => 147 | 212 => 158 | 51 => 159 | 20 => 20 | 213 => 160 | 232 => 167 | 233 => 168 | 80 => 66 | n => n, fun | 15 => 1 | 16 => 2 | 17 => 3 | 18 => 4 | 19 => 5 | n => n⟩
theorem Tryz.lays172 : Go.Proofs.Lays.n172 Tryz.prog Tryz.lays172_ren := {
  mixed := by kernel_rfl
  f129 := Tryz.func96.trans (congrArg some (by kernel_rfl))
  f171 := Tryz.func58.trans (congrArg some (by kernel_rfl))
  f172 := Tryz.func66.trans (congrArg some (by kernel_rfl))
  f205 := Tryz.func94.trans (congrArg some (by kernel_rfl))
  f243 := Tryz.func71.trans (congrArg some (by kernel_rfl))
  f244 := Tryz.func78.trans (congrArg some (by kernel_rfl))
  f245 := Tryz.func79.trans (congrArg some (by kernel_rfl))
  f246 := Tryz.func81.trans (congrArg some (by kernel_rfl))
  f247 := Tryz.func83.trans (congrArg some (by kernel_rfl))
  f279 := Tryz.func84.trans (congrArg some (by kernel_rfl))
  f280 := Tryz.func85.trans (congrArg some (by kernel_rfl))
  f281 := Tryz.func86.trans (congrArg some (by kernel_rfl))
  f282 := Tryz.func87.trans (congrArg some (by kernel_rfl))
  f283 := Tryz.func88.trans (congrArg some (by kernel_rfl))
  f284 := Tryz.func89.trans (congrArg some (by kernel_rfl))
  f285 := Tryz.func90.trans (congrArg some (by kernel_rfl))
  f286 := Tryz.func91.trans (congrArg some (by kernel_rfl))
  f287 := Tryz.func92.trans (congrArg some (by kernel_rfl))
  f316 := Tryz.func93.trans (congrArg some (by kernel_rfl))
  f317 := Tryz.func95.trans (congrArg some (by kernel_rfl))
  f318 := Tryz.func97.trans (congrArg some (by kernel_rfl))
  f319 := Tryz.func98.trans (congrArg some (by kernel_rfl))
  f320 := Tryz.func99.trans (congrArg some (by kernel_rfl))
  f321 := Tryz.func100.trans (congrArg some (by kernel_rfl))
  f322 := Tryz.func101.trans (congrArg some (by kernel_rfl))
  f337 := Tryz.func102.trans (congrArg some (by kernel_rfl))
  f338 := Tryz.func103.trans (congrArg some (by kernel_rfl))
  t0 := Tryz.underlying0
  a0 := Tryz.isAgg0
  z0 := Tryz.sizeOf0
  v0 := Tryz.zeroValue0
  t2 := Tryz.underlying2
  a2 := Tryz.isAgg2
  z2 := Tryz.sizeOf2
  v2 := Tryz.zeroValue2
  t3 := Tryz.underlying3
  a3 := Tryz.isAgg3
  z3 := Tryz.sizeOf3
  v3 := Tryz.zeroValue3
  t4 := Tryz.underlying4
  a4 := Tryz.isAgg4
  z4 := Tryz.sizeOf4
  v4 := Tryz.zeroValue4
  t5 := Tryz.underlying5
  a5 := Tryz.isAgg5
  z5 := Tryz.sizeOf5
  v5 := Tryz.zeroValue5
  t9 := Tryz.underlying9
  a9 := Tryz.isAgg9
  z9 := Tryz.sizeOf9
  v9 := Tryz.zeroValue9
  t20 := Tryz.underlying20
  a20 := Tryz.isAgg20
  z20 := Tryz.sizeOf20
  v20 := Tryz.zeroValue20
  t21 := Tryz.underlying21
  a21 := Tryz.isAgg21
  z21 := Tryz.sizeOf21
  v21 := Tryz.zeroValue21
  t37 := Tryz.underlying48
  a37 := Tryz.isAgg48
  z37 := Tryz.sizeOf48
  v37 := Tryz.zeroValue48
  t46 := Tryz.underlying151
  a46 := Tryz.isAgg151
  z46 := Tryz.sizeOf151
  v46 := Tryz.zeroValue151
  t51 := Tryz.underlying159
  a51 := Tryz.isAgg159
  z51 := Tryz.sizeOf159
  v51 := Tryz.zeroValue159
  t53 := Tryz.underlying144
  a53 := Tryz.isAgg144
  z53 := Tryz.sizeOf144
  v53 := Tryz.zeroValue144
  t75 := Tryz.underlying61
  a75 := Tryz.isAgg61
  z75 := Tryz.sizeOf61
  v75 := Tryz.zeroValue61
  t76 := Tryz.underlying64
  a76 := Tryz.isAgg64
  z76 := Tryz.sizeOf64
  v76 := Tryz.zeroValue64
  t85 := Tryz.underlying138
  a85 := Tryz.isAgg138
  z85 := Tryz.sizeOf138
  v85 := Tryz.zeroValue138
  t127 := Tryz.underlying97
  a127 := Tryz.isAgg97
  z127 := Tryz.sizeOf97
  v127 := Tryz.zeroValue97
  t143 := Tryz.underlying163
  a143 := Tryz.isAgg163
  z143 := Tryz.sizeOf163
  v143 := Tryz.zeroValue163
  t145 := Tryz.underlying165
  a145 := Tryz.isAgg165
  z145 := Tryz.sizeOf165
  v145 := Tryz.zeroValue165
  t167 := Tryz.underlying137
  a167 := Tryz.isAgg137
  z167 := Tryz.sizeOf137
  v167 := Tryz.zeroValue137
  t168 := Tryz.underlying140
  a168 := Tryz.isAgg140
  z168 := Tryz.sizeOf140
  v168 := Tryz.zeroValue140
  t171 := Tryz.underlying143
  a171 := Tryz.isAgg143
  z171 := Tryz.sizeOf143
  v171 := Tryz.zeroValue143
  t173 := Tryz.underlying147
  a173 := Tryz.isAgg147
  z173 := Tryz.sizeOf147
  v173 := Tryz.zeroValue147
  t175 := Tryz.underlying149
  a175 := Tryz.isAgg149
  z175 := Tryz.sizeOf149
  v175 := Tryz.zeroValue149
  t210 := Tryz.underlying154
  a210 := Tryz.isAgg154
  z210 := Tryz.sizeOf154
  v210 := Tryz.zeroValue154
  t212 := Tryz.underlying158
  a212 := Tryz.isAgg158
  z212 := Tryz.sizeOf158
  v212 := Tryz.zeroValue158
  t213 := Tryz.underlying160
  a213 := Tryz.isAgg160
  z213 := Tryz.sizeOf160
  t232 := Tryz.underlying167
  a232 := Tryz.isAgg167
  z232 := Tryz.sizeOf167
  v232 := Tryz.zeroValue167
  t233 := Tryz.underlying168
  a233 := Tryz.isAgg168
  z233 := Tryz.sizeOf168
  v233 := Tryz.zeroValue168
  g15 := by kernel_rfl
  g16 := by kernel_rfl
  g17 := by kernel_rfl
  g18 := by kernel_rfl
  g19 := by kernel_rfl }
def Tryz.laysM171_ren : Go.Shelf.Ren := ⟨fun | 171 => 58 | 243 => 71 | 246 => 81 | 283 => 88 | 284 => 89 | 285 => 90 | 286 => 91 | 129 => 96 | 317 => 95 | 318 => 97 | 319 => 98 | 320 => 99 | 337 => 102 | 338 => 103 | n => n, fun | 3 => 3 | 9 => 9 | 2 => 2 | 4 => 4 | 171 => 143 | 0 => 0 | 53 => 144 | 37 => 48 | 5 => 5 | 173 => 147 | 212 => 158 | 51 => 159 | 20 => 20 | 213 => 160 | 46 => 151 | 232 => 167 | 233 => 168 | n => n, fun | 17 => 3 | 18 => 4 | 19 => 5 | n => n⟩
theorem Tryz.laysM171 : Go.Proofs.LaysM.n171 Tryz.prog Tryz.laysM171_ren := {
  mixed := by kernel_rfl
  f129 := Tryz.func96.trans (congrArg some (by kernel_rfl))
  f171 := Tryz.func58.trans (congrArg some (by kernel_rfl))
  f243 := Tryz.func71.trans (congrArg some (by kernel_rfl))
  f246 := Tryz.func81.trans (congrArg some (by kernel_rfl))
  f283 := Tryz.func88.trans (congrArg some (by kernel_rfl))
  f284 := Tryz.func89.trans (congrArg some (by kernel_rfl))
  f285 := Tryz.func90.trans (congrArg some (by kernel_rfl))
  f286 := Tryz.func91.trans (congrArg some (by kernel_rfl))
  f317 := Tryz.func95.trans (congrArg some (by kernel_rfl))
  f318 := Tryz.func97.trans (congrArg some (by kernel_rfl))
  f319 := Tryz.func98.trans (congrArg some (by kernel_rfl))
  f320 := Tryz.func99.trans (congrArg some (by kernel_rfl))
  f337 := Tryz.func102.trans (congrArg some (by kernel_rfl))
  f338 := Tryz.func103.trans (congrArg some (by kernel_rfl))
  t0 := Tryz.underlying0
  a0 := Tryz.isAgg0
  z0 := Tryz.sizeOf0
  v0 := Tryz.zeroValue0
  t2 := Tryz.underlying2
  a2 := Tryz.isAgg2
  z2 := Tryz.sizeOf2
  v2 := Tryz.zeroValue2
  t3 := Tryz.underlying3
  a3 := Tryz.isAgg3
  z3 := Tryz.sizeOf3
  v3 := Tryz.zeroValue3
  t4 := Tryz.underlying4
  a4 := Tryz.isAgg4
  z4 := Tryz.sizeOf4
  v4 := Tryz.zeroValue4
  t5 := Tryz.underlying5
  a5 := Tryz.isAgg5
  z5 := Tryz.sizeOf5
  v5 := Tryz.zeroValue5
  t9 := Tryz.underlying9
  a9 := Tryz.isAgg9
  z9 := Tryz.sizeOf9
  v9 := Tryz.zeroValue9
  t20 := Tryz.underlying20
  a20 := Tryz.isAgg20
  z20 := Tryz.sizeOf20
  v20 := Tryz.zeroValue20
  t37 := Tryz.underlying48
  a37 := Tryz.isAgg48
  z37 := Tryz.sizeOf48
  v37 := Tryz.zeroValue48
  t46 := Tryz.underlying151
  a46 := Tryz.isAgg151
  z46 := Tryz.sizeOf151
  v46 := Tryz.zeroValue151
  t51 := Tryz.underlying159
  a51 := Tryz.isAgg159
  z51 := Tryz.sizeOf159
  v51 := Tryz.zeroValue159
  t53 := Tryz.underlying144
  a53 := Tryz.isAgg144
  z53 := Tryz.sizeOf144
  v53 := Tryz.zeroValue144
  t171 := Tryz.underlying143
  a171 := Tryz.isAgg143
  z171 := Tryz.sizeOf143
  v171 := Tryz.zeroValue143
  t173 := Tryz.underlying147
  a173 := Tryz.isAgg147
  z173 := Tryz.sizeOf147
  v173 := Tryz.zeroValue147
  t212 := Tryz.underlying158
  a212 := Tryz.isAgg158
  z212 := Tryz.sizeOf158
  v212 := Tryz.zeroValue158
  t213 := Tryz.underlying160
  a213 := Tryz.isAgg160
  z213 := Tryz.sizeOf160
  t232 := Tryz.underlying167
  a232 := Tryz.isAgg167
  z232 := Tryz.sizeOf167
  v232 := Tryz.zeroValue167
  t233 := Tryz.underlying168
  a233 := Tryz.isAgg168
  z233 := Tryz.sizeOf168
  v233 := Tryz.zeroValue168
  g17 := by kernel_rfl
  g18 := by kernel_rfl
  g19 := by kernel_rfl
  i0 := by kernel_rfl
  i2 := by kernel_rfl
  i3 := by kernel_rfl
  i4 := by kernel_rfl
  i5 := by kernel_rfl
  i9 := by kernel_rfl
  i20 := by kernel_rfl
  i37 := by kernel_rfl
  i46 := by kernel_rfl
  i51 := by kernel_rfl
  i53 := by kernel_rfl
  i171 := by kernel_rfl
  i173 := by kernel_rfl
  i212 := by kernel_rfl
  i232 := by kernel_rfl
  i233 := by kernel_rfl
  m17 := by kernel_rfl
  m18 := by kernel_rfl
  m19 := by kernel_rfl }
end Go.Proofs
namespace Go.Vc
def byt (s : List UInt8) (i : Nat) : Nat := match s[i]? with
  | some b => b.toNat
  | none => 256
theorem byt_lt {s : List UInt8} {i : Nat} : byt s i < 256 ↔ i < s.length := by
  unfold byt
  constructor
  · intro h
    split at h
    · rename_i b hb; exact (List.getElem?_eq_some_iff.1 hb).1
    · omega
  · intro h
    rw [List.getElem?_eq_getElem h]
    exact (s[i]).toNat_lt
def inB (s : List UInt8) (i a b : Nat) : Bool := decide (byt s i < 256) && (decide (a ≤ byt s i) && decide (byt s i ≤ b))
def moreB (s : List UInt8) (i : Nat) : Nat → Bool
  | 0 => true
  | n + 1 => inB s i 128 191 && moreB s (i + 1) n
def sizeR (s : List UInt8) (i : Nat) : Nat :=
  if inB s i 0 127 then 1
  else if inB s i 194 223 && moreB s (i + 1) 1 then 2
  else if (inB s i 224 224 && inB s (i + 1) 160 191 && moreB s (i + 2) 1) || (inB s i 225 236 && moreB s (i + 1) 2) || (inB s i 237 237 && inB s (i + 1) 128 159 && moreB s (i + 2) 1) || (inB s i 238 239 && moreB s (i + 1) 2) then 3
  else if (inB s i 240 240 && inB s (i + 1) 144 191 && moreB s (i + 2) 2) || (inB s i 241 243 && moreB s (i + 1) 3) || (inB s i 244 244 && inB s (i + 1) 128 143 && moreB s (i + 2) 2) then 4
  else 0
def runeR (s : List UInt8) (i : Nat) : Nat → Nat
  | 1 => byt s i
  | 2 => 64 * (byt s i - 192) + byt s (i + 1) - 128
  | 3 => 64 * (64 * (byt s i - 224) + byt s (i + 1) - 128) + byt s (i + 2) - 128
  | 4 => 64 * (64 * (64 * (byt s i - 240) + byt s (i + 1) - 128) + byt s (i + 2) - 128) + byt s (i + 3) - 128
  | _ => 0
theorem get_byt {s : List UInt8} {i : Nat} (h : i < s.length) : ((⟨s.toArray⟩ : ByteArray).get! i).toNat = byt s i := by
  unfold byt
  rw [List.getElem?_eq_getElem h]
  simp [ByteArray.get!, getElem!_pos, h]
theorem size_list (s : List UInt8) : (⟨s.toArray⟩ : ByteArray).size = s.length := by simp [ByteArray.size]
set_option maxRecDepth 10000 in
set_option maxHeartbeats 2000000 in
theorem dec_arith (b0 b1 b2 b3 : Nat) (e1 e2 e3 : Bool) (h0 : b0 < 256) (h1 : e1 = true → 128 ≤ b1 ∧ b1 ≤ 191) (h2 : e2 = true → 128 ≤ b2 ∧ b2 ≤ 191) (h3 : e3 = true → 128 ≤ b3 ∧ b3 ≤ 191) (sz : Nat)
    (hsz : sz = if b0 ≤ 127 then 1
      else if (194 ≤ b0 ∧ b0 ≤ 223) ∧ e1 = true then 2
      else if (b0 = 224 ∧ (e1 = true ∧ 160 ≤ b1) ∧ e2 = true) ∨ ((225 ≤ b0 ∧ b0 ≤ 236) ∧ e1 = true ∧ e2 = true) ∨ (b0 = 237 ∧ (e1 = true ∧ b1 ≤ 159) ∧ e2 = true) ∨ ((238 ≤ b0 ∧ b0 ≤ 239) ∧ e1 = true ∧ e2 = true) then 3
      else if (b0 = 240 ∧ (e1 = true ∧ 144 ≤ b1) ∧ e2 = true ∧ e3 = true) ∨ ((241 ≤ b0 ∧ b0 ≤ 243) ∧ e1 = true ∧ e2 = true ∧ e3 = true) ∨ (b0 = 244 ∧ (e1 = true ∧ b1 ≤ 143) ∧ e2 = true ∧ e3 = true) then 4
      else 0) :
    (if b0 < 0x80 then (b0, 1)
      else if b0 / 32 = 6 ∧ e1 = true then (if (b0 % 32) * 64 + b1 % 64 ≥ 0x80 then ((b0 % 32) * 64 + b1 % 64, 2) else (65533, 1))
      else if b0 / 16 = 14 ∧ e1 = true ∧ e2 = true then (if (b0 % 16) * 4096 + (b1 % 64) * 64 + b2 % 64 ≥ 0x800 ∧ ((b0 % 16) * 4096 + (b1 % 64) * 64 + b2 % 64 < 0xD800 ∨ 0xE000 ≤ (b0 % 16) * 4096 + (b1 % 64) * 64 + b2 % 64 ∧ (b0 % 16) * 4096 + (b1 % 64) * 64 + b2 % 64 ≤ 0x10FFFF)
        then ((b0 % 16) * 4096 + (b1 % 64) * 64 + b2 % 64, 3) else (65533, 1))
      else if b0 / 8 = 30 ∧ e1 = true ∧ e2 = true ∧ e3 = true then (if (b0 % 8) * 262144 + (b1 % 64) * 4096 + (b2 % 64) * 64 + b3 % 64 ≥ 0x10000 ∧ ((b0 % 8) * 262144 + (b1 % 64) * 4096 + (b2 % 64) * 64 + b3 % 64 < 0xD800 ∨ 0xE000 ≤ (b0 % 8) * 262144 + (b1 % 64) * 4096 + (b2 % 64) * 64 + b3 % 64 ∧ (b0 % 8) * 262144 + (b1 % 64) * 4096 + (b2 % 64) * 64 + b3 % 64 ≤ 0x10FFFF)
        then ((b0 % 8) * 262144 + (b1 % 64) * 4096 + (b2 % 64) * 64 + b3 % 64, 4) else (65533, 1))
      else ((65533, 1) : Nat × Nat)) =
    if sz = 0 then (65533, 1) else (if sz = 1 then b0 else if sz = 2 then 64 * (b0 - 192) + b1 - 128 else if sz = 3 then 64 * (64 * (b0 - 224) + b1 - 128) + b2 - 128 else 64 * (64 * (64 * (b0 - 240) + b1 - 128) + b2 - 128) + b3 - 128, sz) := by
  cases e1 <;> cases e2 <;> cases e3 <;> (try replace h1 := h1 rfl) <;> (try replace h2 := h2 rfl) <;> (try replace h3 := h3 rfl) <;> simp only [Bool.false_eq_true,true_and,and_true,and_false,false_and,or_false,false_or,if_false] at hsz ⊢
  all_goals
    (repeat' split at hsz) <;> (repeat' split) <;> first | (exfalso; omega) | (apply Prod.ext <;> simp only <;> omega)
theorem valid_nat (n : Nat) : Utf8.valid (n : Int) = decide (n < 0xD800 ∨ 0xE000 ≤ n ∧ n ≤ 0x10FFFF) := by
  unfold Utf8.valid
  rw [Bool.eq_iff_iff]
  simp only [Bool.or_eq_true,Bool.and_eq_true,decide_eq_true_eq]
  omega
set_option maxRecDepth 20000 in
theorem decode_eq (s : List UInt8) (i : Nat) (h : i < s.length) :
    Utf8.decode ⟨s.toArray⟩ i = if sizeR s i = 0 then (65533, 1) else (runeR s i (sizeR s i), sizeR s i) := by
  have h0 := byt_lt.2 h
  have g0 : ((⟨s.toArray⟩ : ByteArray).get! (i + 0)).toNat = byt s i := get_byt h
  have c : ∀ k, (decide (i + k < s.length) && ((⟨s.toArray⟩ : ByteArray).get! (i + k)).toNat / 64 == 2) = inB s (i + k) 128 191 := by
    intro k
    unfold inB
    by_cases hk : i + k < s.length
    · have hb := byt_lt.2 hk
      rw [get_byt hk, decide_eq_true hk, decide_eq_true hb, Bool.true_and, Bool.true_and, Bool.eq_iff_iff]
      simp only [beq_iff_eq,Bool.and_eq_true,decide_eq_true_eq]
      omega
    · have hb : ¬ byt s (i + k) < 256 := fun hh => hk (byt_lt.1 hh)
      rw [decide_eq_false hk, decide_eq_false hb, Bool.false_and, Bool.false_and]
  have gk : ∀ k, inB s (i + k) 128 191 = true → ((⟨s.toArray⟩ : ByteArray).get! (i + k)).toNat = byt s (i + k) ∧ 128 ≤ byt s (i + k) ∧ byt s (i + k) ≤ 191 := by
    intro k hk
    simp only [inB,Bool.and_eq_true,decide_eq_true_eq] at hk
    exact ⟨get_byt (byt_lt.1 hk.1), hk.2.1, hk.2.2⟩
  have inb : ∀ a b, inB s i a b = (decide (a ≤ byt s i) && decide (byt s i ≤ b)) := fun a b => by rw [inB, decide_eq_true h0, Bool.true_and]
  have m1 : moreB s (i + 1) 1 = inB s (i + 1) 128 191 := by simp [moreB]
  have m2 : moreB s (i + 1) 2 = (inB s (i + 1) 128 191 && inB s (i + 2) 128 191) := by simp [moreB]
  have m3 : moreB s (i + 1) 3 = (inB s (i + 1) 128 191 && (inB s (i + 2) 128 191 && inB s (i + 3) 128 191)) := by simp [moreB]
  have m21 : moreB s (i + 2) 1 = inB s (i + 2) 128 191 := by simp [moreB]
  have m22 : moreB s (i + 2) 2 = (inB s (i + 2) 128 191 && inB s (i + 3) 128 191) := by simp [moreB]
  have sub : ∀ a b, 128 ≤ a → b ≤ 191 → inB s (i + 1) a b = (inB s (i + 1) 128 191 && (decide (a ≤ byt s (i + 1)) && decide (byt s (i + 1) ≤ b))) := by
    intro a b ha hb
    unfold inB
    rw [Bool.eq_iff_iff]
    simp only [Bool.and_eq_true,decide_eq_true_eq]
    omega
  have hsz : sizeR s i = if byt s i ≤ 127 then 1
      else if (194 ≤ byt s i ∧ byt s i ≤ 223) ∧ inB s (i + 1) 128 191 = true then 2
      else if (byt s i = 224 ∧ (inB s (i + 1) 128 191 = true ∧ 160 ≤ byt s (i + 1)) ∧ inB s (i + 2) 128 191 = true) ∨ ((225 ≤ byt s i ∧ byt s i ≤ 236) ∧ inB s (i + 1) 128 191 = true ∧ inB s (i + 2) 128 191 = true) ∨
        (byt s i = 237 ∧ (inB s (i + 1) 128 191 = true ∧ byt s (i + 1) ≤ 159) ∧ inB s (i + 2) 128 191 = true) ∨ ((238 ≤ byt s i ∧ byt s i ≤ 239) ∧ inB s (i + 1) 128 191 = true ∧ inB s (i + 2) 128 191 = true) then 3
      else if (byt s i = 240 ∧ (inB s (i + 1) 128 191 = true ∧ 144 ≤ byt s (i + 1)) ∧ inB s (i + 2) 128 191 = true ∧ inB s (i + 3) 128 191 = true) ∨ ((241 ≤ byt s i ∧ byt s i ≤ 243) ∧ inB s (i + 1) 128 191 = true ∧ inB s (i + 2) 128 191 = true ∧ inB s (i + 3) 128 191 = true) ∨
        (byt s i = 244 ∧ (inB s (i + 1) 128 191 = true ∧ byt s (i + 1) ≤ 143) ∧ inB s (i + 2) 128 191 = true ∧ inB s (i + 3) 128 191 = true) then 4
      else 0 := by
    have b1 := fun (e : inB s (i + 1) 128 191 = true) => (gk 1 e).2
    unfold sizeR
    rw [sub 160 191 (by omega) (by omega), sub 128 159 (by omega) (by omega), sub 144 191 (by omega) (by omega), sub 128 143 (by omega) (by omega)]
    simp only [inb,m1,m2,m3,m21,m22]
    cases e1 : inB s (i + 1) 128 191 <;> cases e2 : inB s (i + 2) 128 191 <;> cases e3 : inB s (i + 3) 128 191 <;> (try replace b1 := b1 e1) <;>
      simp only [Bool.false_and,Bool.true_and,Bool.and_false,Bool.and_true,Bool.or_false,Bool.false_or,Bool.false_eq_true,Bool.or_eq_true,Bool.and_eq_true,decide_eq_true_eq,and_false,false_and,and_true,true_and,or_false,if_false] <;>
      (repeat' split) <;> first | rfl | (exfalso; omega)
  have key := dec_arith (byt s i) (byt s (i + 1)) (byt s (i + 2)) (byt s (i + 3)) (inB s (i + 1) 128 191) (inB s (i + 2) 128 191) (inB s (i + 3) 128 191) h0 (fun e => (gk 1 e).2) (fun e => (gk 2 e).2) (fun e => (gk 3 e).2) (sizeR s i) hsz
  have hr : (if sizeR s i = 0 then (65533, 1) else (runeR s i (sizeR s i), sizeR s i) : Nat × Nat) = if sizeR s i = 0 then (65533, 1) else (if sizeR s i = 1 then byt s i else if sizeR s i = 2 then 64 * (byt s i - 192) + byt s (i + 1) - 128 else
      if sizeR s i = 3 then 64 * (64 * (byt s i - 224) + byt s (i + 1) - 128) + byt s (i + 2) - 128 else 64 * (64 * (64 * (byt s i - 240) + byt s (i + 1) - 128) + byt s (i + 2) - 128) + byt s (i + 3) - 128, sizeR s i) := by
    have : sizeR s i = 0 ∨ sizeR s i = 1 ∨ sizeR s i = 2 ∨ sizeR s i = 3 ∨ sizeR s i = 4 := by
      rw [hsz]; (repeat' split) <;> omega
    rcases this with e | e | e | e | e
    · rw [if_pos e, if_pos e]
    · rw [if_neg (by omega), if_neg (by omega), if_pos e, e]; rfl
    · rw [if_neg (by omega), if_neg (by omega), if_neg (by omega), if_pos e, e]; rfl
    · rw [if_neg (by omega), if_neg (by omega), if_neg (by omega), if_neg (by omega), if_pos e, e]; rfl
    · rw [if_neg (by omega), if_neg (by omega), if_neg (by omega), if_neg (by omega), if_neg (by omega), e]; rfl
  rw [hr, ← key]
  unfold Utf8.decode
  simp only [size_list,g0,c,valid_nat,Utf8.runeError]
  cases e1 : inB s (i + 1) 128 191 <;> cases e2 : inB s (i + 2) 128 191 <;> cases e3 : inB s (i + 3) 128 191 <;>
    (try rw [(gk 1 e1).1]) <;> (try rw [(gk 2 e2).1]) <;> (try rw [(gk 3 e3).1]) <;>
    simp only [Bool.false_and,Bool.true_and,Bool.and_false,Bool.and_true,Bool.false_eq_true,Bool.and_eq_true,decide_eq_true_eq,beq_iff_eq,and_false,false_and,and_true,true_and,if_false]
end Go.Vc
namespace Go.Vc
open Go.Proofs
def inZ (s : List UInt8) (i a b : Int) : Bool := decide (i < s.length) && (decide (a ≤ byt s i.toNat) && decide ((byt s i.toNat : Int) ≤ b))
theorem inZ_nat (s : List UInt8) (i a b : Nat) : inZ s i a b = inB s i a b := by
  unfold inZ inB
  rw [Bool.eq_iff_iff]
  simp only [Bool.and_eq_true,decide_eq_true_eq,byt_lt,Int.toNat_natCast,Int.ofNat_lt,Int.ofNat_le]
theorem idx_byt {s : List UInt8} {i : Nat} (h : i < s.length) : idxSV (.str s) (vI i) = some (.int .u8 (byt s i)) := by
  unfold idxSV byt
  simp [h]
theorem in_c (s : List UInt8) (i a b : Int) (hi : 0 ≤ i) : PFun Tryz.prog 39 [.str s, vI i, .int .u8 a, .int .u8 b] (.bool (inZ s i a b)) := fun σ => by
  refine Contract.of_runs Tryz.func39 e39 k39 (by simp [c39]) ?_
  obtain ⟨j, rfl⟩ : ∃ j : Nat, i = j := ⟨i.toNat, by omega⟩
  refine Runs.mix 8 ?_
  by_cases hj : j < s.length
  · have h1 : ((j : Int) < (s.length : Int)) = True := by simp; omega
    have h2 := idx_byt hj
    (refine Runs.of_step Orc.nothing 300 ?_; simp -implicitDefEqProofs only [BB,seval,effR_some,effD_some,← decide_not,okind,vpre,vpure,intBin,intPre,strBin,strPre,popTo,argSlots,fldV,fldAV,subCells,idxVV,idxAAV,sliceV,sliceSV,boundV,szIs,storeOp,storeS,setRowV,eff,extV,buildV,splice,eqSV,fitsL,eqCells,eqCell,minmaxV,capV,binBV,nilCheckV,bytesV,V.cells,V.stays,Orc.nothing,c39,h1,h2])
    refine And.intro (fun h => ?_) (fun h => ?_)
    all_goals
      refine RetV.same ?_
      simp only [V.bool.injEq,inZ,Int.toNat_natCast]
      rw [Bool.eq_iff_iff]; simp; omega
  · have h1 : ((j : Int) < (s.length : Int)) = False := by simp; omega
    (refine Runs.of_step Orc.nothing 300 ?_; simp -implicitDefEqProofs only [BB,seval,effR_some,effD_some,← decide_not,okind,vpre,vpure,intBin,intPre,strBin,strPre,popTo,argSlots,fldV,fldAV,subCells,idxVV,idxAAV,idxSV,sliceV,sliceSV,boundV,szIs,storeOp,storeS,setRowV,eff,extV,buildV,splice,eqSV,fitsL,eqCells,eqCell,minmaxV,capV,binBV,nilCheckV,bytesV,V.cells,V.stays,Orc.nothing,c39,h1])
    refine RetV.same ?_
    simp only [V.bool.injEq,inZ,Int.toNat_natCast]
    rw [Bool.eq_iff_iff]; simp; omega
def isWhite (c : Int) : Bool := decide (c = 32) || (decide (c = 9) || decide (c = 10))
theorem white_c (c : Int) : PFun Tryz.prog 47 [.int .i32 c] (.bool (isWhite c)) := fun σ => by
  refine Contract.of_runs Tryz.func47 e47 k47 (by simp [c47]) ?_
  refine Runs.mix 2 ?_
  (refine Runs.of_step Orc.nothing 300 ?_; simp -implicitDefEqProofs only [BB,seval,effR_some,effD_some,← decide_not,okind,vpre,vpure,intBin,intPre,strBin,strPre,popTo,argSlots,fldV,fldAV,subCells,idxVV,idxAAV,idxSV,sliceV,sliceSV,boundV,szIs,storeOp,storeS,setRowV,eff,extV,buildV,splice,eqSV,fitsL,eqCells,eqCell,minmaxV,capV,binBV,nilCheckV,bytesV,V.cells,V.stays,Orc.nothing,c47])
  refine And.intro (fun h => And.intro (fun h2 => ?_) (fun h2 => ?_)) (fun h => ?_)
  all_goals exact RetV.same (by simp [isWhite, h, *])
def isDig (c : Int) : Bool := decide (c ≥ 48 ∧ c ≤ 57)
theorem digit_c (c : Int) : PFun Tryz.prog 49 [.int .i32 c] (.bool (isDig c)) := fun σ => by
  refine Contract.of_runs Tryz.func49 e49 k49 (by simp [c49]) ?_
  refine Runs.mix 2 ?_
  (refine Runs.of_step Orc.nothing 300 ?_; simp -implicitDefEqProofs only [BB,seval,effR_some,effD_some,← decide_not,okind,vpre,vpure,intBin,intPre,strBin,strPre,popTo,argSlots,fldV,fldAV,subCells,idxVV,idxAAV,idxSV,sliceV,sliceSV,boundV,szIs,storeOp,storeS,setRowV,eff,extV,buildV,splice,eqSV,fitsL,eqCells,eqCell,minmaxV,capV,binBV,nilCheckV,bytesV,V.cells,V.stays,Orc.nothing,c49])
  constructor <;> intro h <;> exact RetV.same (by simp [h, isDig])
def Orc.one {P : Program} (O : Orc P) (f0 : FuncId) (g : List V → Option V) (h : ∀ args v, g args = some v → PFun P f0 args v) : Orc P where
  get f args σ := if f = f0 then g args else O.get f args σ
  up f args σ σ' v hs hv := by
    split at hv
    · rename_i hf; rw [if_pos hf]; exact hv
    · rename_i hf; rw [if_neg hf]; exact O.up f args σ σ' v hs hv
  ok f args σ v hv := by
    split at hv
    · rename_i hf; subst hf; exact h args v hv σ
    · exact O.ok f args σ v hv
def g20 : List V → Option V
  | [.str s, .int .i64 i, .int .u8 a, .int .u8 b] => if 0 ≤ i then some (.bool (inZ s i a b)) else none
  | _ => none
def OE1 : Orc Tryz.prog := Orc.nothing.one 39 g20 fun args v h => by
  unfold g20 at h
  split at h
  · split at h
    · simp only [Option.some.injEq] at h; subst h; exact in_c _ _ _ _ (by assumption)
    · cases h
  · cases h
theorem OE1_20 (s : List UInt8) (i a b : Int) (σ : Store) (hi : 0 ≤ i) : OE1.get 39 [.str s, .int .i64 i, .int .u8 a, .int .u8 b] σ = some (.bool (inZ s i a b)) := by
  show (if 0 ≤ i then some (V.bool (inZ s i a b)) else none) = _
  rw [if_pos hi]
theorem more_c (s : List UInt8) (i n : Nat) (hi : i ≤ 1000000000) (hn : n ≤ 10) : PFun Tryz.prog 60 [.str s, vI i, vI n] (.bool (moreB s i n)) := fun σ => by
  refine Contract.of_runs Tryz.func60 e60 k60 (by simp [c60]) ?_
  refine Runs.mix 9 ?_
  (refine Runs.of_step Orc.nothing 300 ?_; simp -implicitDefEqProofs only [BB,seval,effR_some,effD_some,← decide_not,okind,vpre,vpure,intBin,intPre,strBin,strPre,popTo,argSlots,fldV,fldAV,subCells,idxVV,idxAAV,idxSV,sliceV,sliceSV,boundV,szIs,storeOp,storeS,setRowV,eff,extV,buildV,splice,eqSV,fitsL,eqCells,eqCell,minmaxV,capV,binBV,nilCheckV,bytesV,V.cells,V.stays,Orc.nothing,c60])
  refine Runs.loop (fun m st => ∃ j : Nat, j ≤ n ∧ m = n - j ∧ moreB s i n = moreB s (i + j) (n - j) ∧ st.σ = σ ∧ st.s 0 = .str s ∧ st.s 1 = vI i ∧ st.s 2 = vI n ∧ st.s 7 = vI j) n ?_ ?_
  · exact ⟨0, by omega, by omega, rfl, rfl, rfl, rfl, rfl, rfl⟩
  · rintro m ⟨s', σ'⟩ ⟨j, hj, rfl, hp, hσ, h0, h1, h2, h7⟩
    simp only at h0 h1 h2 h7 hσ
    subst hσ
    refine Runs.mix 9 ?_
    by_cases hlt : j < n
    · have hlt' : ((j : Int) < (n : Int)) = True := by simp; omega
      have hadd : ((i : Int) + (j : Int)) = ((i + j : Nat) : Int) := by omega
      have hin : inR .i64 ((i + j : Nat) : Int) := inR_i64 (by omega) (by omega)
      have hin2 : inR .i64 ((j : Int) + 1) := inR_i64 (by omega) (by omega)
      obtain ⟨d, hd⟩ : ∃ d, n - j = d + 1 := ⟨n - j - 1, by omega⟩
      have hget : OE1.get 39 [.str s, .int .i64 ((i + j : Nat) : Int), .int .u8 128, .int .u8 191] σ' = some (.bool (inB s (i + j) 128 191)) := by
        rw [OE1_20 _ _ _ _ _ (by omega)]
        exact congrArg (fun b => some (V.bool b)) (inZ_nat s (i + j) 128 191)
      rw [hd] at hp
      cases hb : inB s (i + j) 128 191
      · (refine Runs.of_step OE1 300 ?_; simp -implicitDefEqProofs only [BB,seval,effR_some,effD_some,← decide_not,okind,vpre,vpure,intBin,intPre,strBin,strPre,popTo,argSlots,fldV,fldAV,subCells,idxVV,idxAAV,idxSV,sliceV,sliceSV,boundV,szIs,storeOp,storeS,setRowV,eff,extV,buildV,splice,eqSV,fitsL,eqCells,eqCell,minmaxV,capV,binBV,nilCheckV,bytesV,V.cells,V.stays,h0,h1,h2,h7,hlt',hadd,hin,hin2,hget,hb])
        exact RetV.same (by rw [hp]; simp [moreB, hb])
      · (refine Runs.of_step OE1 300 ?_; simp -implicitDefEqProofs only [BB,seval,effR_some,effD_some,← decide_not,okind,vpre,vpure,intBin,intPre,strBin,strPre,popTo,argSlots,fldV,fldAV,subCells,idxVV,idxAAV,idxSV,sliceV,sliceSV,boundV,szIs,storeOp,storeS,setRowV,eff,extV,buildV,splice,eqSV,fitsL,eqCells,eqCell,minmaxV,capV,binBV,nilCheckV,bytesV,V.cells,V.stays,h0,h1,h2,h7,hlt',hadd,hin,hin2,hget,hb])
        refine ⟨_, by omega, j + 1, by omega, rfl, ?_, by simp⟩
        rw [hp, moreB, hb, Bool.true_and]
        have : n - (j + 1) = d := by omega
        rw [this]; rfl
    · have hlt' : ((j : Int) < (n : Int)) = False := by simp; omega
      (refine Runs.of_step Orc.nothing 300 ?_; simp -implicitDefEqProofs only [BB,seval,effR_some,effD_some,← decide_not,okind,vpre,vpure,intBin,intPre,strBin,strPre,popTo,argSlots,fldV,fldAV,subCells,idxVV,idxAAV,idxSV,sliceV,sliceSV,boundV,szIs,storeOp,storeS,setRowV,eff,extV,buildV,splice,eqSV,fitsL,eqCells,eqCell,minmaxV,capV,binBV,nilCheckV,bytesV,V.cells,V.stays,Orc.nothing,h0,h1,h2,h7,hlt'])
      refine RetV.same ?_
      have : n - j = 0 := by omega
      rw [hp, this]; rfl
end Go.Vc
namespace Go.Vc
open Go.Proofs
def g30 : List V → Option V
  | [.str s, .int .i64 i, .int .i64 n] => if 0 ≤ i ∧ i ≤ 1000000000 ∧ 0 ≤ n ∧ n ≤ 10 then some (.bool (moreB s i.toNat n.toNat)) else none
  | _ => none
def OE2 : Orc Tryz.prog := OE1.one 60 g30 fun args v h => by
  unfold g30 at h
  split at h
  · rename_i s i n
    split at h
    · rename_i hc
      simp only [Option.some.injEq] at h; subst h
      obtain ⟨j, rfl⟩ : ∃ j : Nat, i = j := ⟨i.toNat, by omega⟩
      obtain ⟨m, rfl⟩ : ∃ m : Nat, n = m := ⟨n.toNat, by omega⟩
      exact more_c s j m (by omega) (by omega)
    · cases h
  · cases h
theorem OE2_20 (s : List UInt8) (i a b : Nat) (σ : Store) : OE2.get 39 [.str s, .int .i64 i, .int .u8 a, .int .u8 b] σ = some (.bool (inB s i a b)) := by
  rw [← inZ_nat]
  exact OE1_20 s i a b σ (by omega)
theorem OE2_30 (s : List UInt8) (i n : Nat) (hi : i ≤ 1000000000) (hn : n ≤ 10) (σ : Store) : OE2.get 60 [.str s, .int .i64 i, .int .i64 n] σ = some (.bool (moreB s i n)) := by
  show (if 0 ≤ (i : Int) ∧ (i : Int) ≤ 1000000000 ∧ 0 ≤ (n : Int) ∧ (n : Int) ≤ 10 then some (V.bool (moreB s (i : Int).toNat (n : Int).toNat)) else none) = _
  rw [if_pos (by omega)]
  simp
set_option maxRecDepth 100000 in
theorem size_c (s : List UInt8) (i : Nat) (hi : i ≤ 100000000) : PFun Tryz.prog 38 [.str s, vI i] (vI (sizeR s i)) := fun σ => by
  refine Contract.of_runs Tryz.func38 e38 k38 (by simp [c38]) ?_
  refine Runs.mix 5 ?_
  have r1 : inR .i64 ((i : Int) + 1) := inR_i64 (by omega) (by omega)
  have r2 : inR .i64 ((i : Int) + 2) := inR_i64 (by omega) (by omega)
  have q0 : OE2.get 39 [.str s, .int .i64 i, .int .u8 0, .int .u8 127] σ = some (.bool (inB s i 0 127)) := OE2_20 s i 0 127 σ
  have q194 : OE2.get 39 [.str s, .int .i64 i, .int .u8 194, .int .u8 223] σ = some (.bool (inB s i 194 223)) := OE2_20 s i 194 223 σ
  have q224 : OE2.get 39 [.str s, .int .i64 i, .int .u8 224, .int .u8 224] σ = some (.bool (inB s i 224 224)) := OE2_20 s i 224 224 σ
  have q225 : OE2.get 39 [.str s, .int .i64 i, .int .u8 225, .int .u8 236] σ = some (.bool (inB s i 225 236)) := OE2_20 s i 225 236 σ
  have q237 : OE2.get 39 [.str s, .int .i64 i, .int .u8 237, .int .u8 237] σ = some (.bool (inB s i 237 237)) := OE2_20 s i 237 237 σ
  have q238 : OE2.get 39 [.str s, .int .i64 i, .int .u8 238, .int .u8 239] σ = some (.bool (inB s i 238 239)) := OE2_20 s i 238 239 σ
  have q240 : OE2.get 39 [.str s, .int .i64 i, .int .u8 240, .int .u8 240] σ = some (.bool (inB s i 240 240)) := OE2_20 s i 240 240 σ
  have q241 : OE2.get 39 [.str s, .int .i64 i, .int .u8 241, .int .u8 243] σ = some (.bool (inB s i 241 243)) := OE2_20 s i 241 243 σ
  have q244 : OE2.get 39 [.str s, .int .i64 i, .int .u8 244, .int .u8 244] σ = some (.bool (inB s i 244 244)) := OE2_20 s i 244 244 σ
  have p160_191 : OE2.get 39 [.str s, .int .i64 ((i : Int) + 1), .int .u8 160, .int .u8 191] σ = some (.bool (inB s (i + 1) 160 191)) := OE2_20 s (i + 1) 160 191 σ
  have p128_159 : OE2.get 39 [.str s, .int .i64 ((i : Int) + 1), .int .u8 128, .int .u8 159] σ = some (.bool (inB s (i + 1) 128 159)) := OE2_20 s (i + 1) 128 159 σ
  have p144_191 : OE2.get 39 [.str s, .int .i64 ((i : Int) + 1), .int .u8 144, .int .u8 191] σ = some (.bool (inB s (i + 1) 144 191)) := OE2_20 s (i + 1) 144 191 σ
  have p128_143 : OE2.get 39 [.str s, .int .i64 ((i : Int) + 1), .int .u8 128, .int .u8 143] σ = some (.bool (inB s (i + 1) 128 143)) := OE2_20 s (i + 1) 128 143 σ
  have m1_1 : OE2.get 60 [.str s, .int .i64 ((i : Int) + 1), .int .i64 1] σ = some (.bool (moreB s (i + 1) 1)) := OE2_30 s (i + 1) 1 (by omega) (by omega) σ
  have m2_1 : OE2.get 60 [.str s, .int .i64 ((i : Int) + 2), .int .i64 1] σ = some (.bool (moreB s (i + 2) 1)) := OE2_30 s (i + 2) 1 (by omega) (by omega) σ
  have m1_2 : OE2.get 60 [.str s, .int .i64 ((i : Int) + 1), .int .i64 2] σ = some (.bool (moreB s (i + 1) 2)) := OE2_30 s (i + 1) 2 (by omega) (by omega) σ
  have m2_2 : OE2.get 60 [.str s, .int .i64 ((i : Int) + 2), .int .i64 2] σ = some (.bool (moreB s (i + 2) 2)) := OE2_30 s (i + 2) 2 (by omega) (by omega) σ
  have m1_3 : OE2.get 60 [.str s, .int .i64 ((i : Int) + 1), .int .i64 3] σ = some (.bool (moreB s (i + 1) 3)) := OE2_30 s (i + 1) 3 (by omega) (by omega) σ
  rcases (show ((0 ≤ byt s i ∧ byt s i ≤ 127) ∨ (194 ≤ byt s i ∧ byt s i ≤ 223) ∨ (224 ≤ byt s i ∧ byt s i ≤ 224) ∨ (225 ≤ byt s i ∧ byt s i ≤ 236) ∨ (237 ≤ byt s i ∧ byt s i ≤ 237) ∨ (238 ≤ byt s i ∧ byt s i ≤ 239) ∨ (240 ≤ byt s i ∧ byt s i ≤ 240) ∨ (241 ≤ byt s i ∧ byt s i ≤ 243) ∨ (244 ≤ byt s i ∧ byt s i ≤ 244) ∨ ((byt s i < 0 ∨ 127 < byt s i) ∧ (byt s i < 194 ∨ 223 < byt s i) ∧ (byt s i < 224 ∨ 224 < byt s i) ∧ (byt s i < 225 ∨ 236 < byt s i) ∧ (byt s i < 237 ∨ 237 < byt s i) ∧ (byt s i < 238 ∨ 239 < byt s i) ∧ (byt s i < 240 ∨ 240 < byt s i) ∧ (byt s i < 241 ∨ 243 < byt s i) ∧ (byt s i < 244 ∨ 244 < byt s i))) from by omega) with h | h | h | h | h | h | h | h | h | h
  · have f0 : inB s i 0 127 = true := by simp [inB]; omega
    have f194 : inB s i 194 223 = false := by simp [inB]; omega
    have f224 : inB s i 224 224 = false := by simp [inB]; omega
    have f225 : inB s i 225 236 = false := by simp [inB]; omega
    have f237 : inB s i 237 237 = false := by simp [inB]; omega
    have f238 : inB s i 238 239 = false := by simp [inB]; omega
    have f240 : inB s i 240 240 = false := by simp [inB]; omega
    have f241 : inB s i 241 243 = false := by simp [inB]; omega
    have f244 : inB s i 244 244 = false := by simp [inB]; omega
    (
      (refine Runs.of_step OE2 300 ?_; simp -implicitDefEqProofs only [BB,seval,effR_some,effD_some,← decide_not,okind,vpre,vpure,intBin,intPre,strBin,strPre,popTo,argSlots,fldV,fldAV,subCells,idxVV,idxAAV,idxSV,sliceV,sliceSV,boundV,szIs,storeOp,storeS,setRowV,eff,extV,buildV,splice,eqSV,fitsL,eqCells,eqCell,minmaxV,capV,binBV,nilCheckV,bytesV,V.cells,V.stays,c38,r1,r2,q0,q194,q224,q225,q237,q238,q240,q241,q244,p160_191,p128_159,p144_191,p128_143,m1_1,m2_1,m1_2,m2_2,m1_3,f0,f194,f224,f225,f237,f238,f240,f241,f244])
      exact RetV.same (by simp [sizeR, f0, f194, f224, f225, f237, f238, f240, f241, f244]))
  · have f0 : inB s i 0 127 = false := by simp [inB]; omega
    have f194 : inB s i 194 223 = true := by simp [inB]; omega
    have f224 : inB s i 224 224 = false := by simp [inB]; omega
    have f225 : inB s i 225 236 = false := by simp [inB]; omega
    have f237 : inB s i 237 237 = false := by simp [inB]; omega
    have f238 : inB s i 238 239 = false := by simp [inB]; omega
    have f240 : inB s i 240 240 = false := by simp [inB]; omega
    have f241 : inB s i 241 243 = false := by simp [inB]; omega
    have f244 : inB s i 244 244 = false := by simp [inB]; omega
    cases g0 : moreB s (i + 1) 1 <;> (
      (refine Runs.of_step OE2 300 ?_; simp -implicitDefEqProofs only [BB,seval,effR_some,effD_some,← decide_not,okind,vpre,vpure,intBin,intPre,strBin,strPre,popTo,argSlots,fldV,fldAV,subCells,idxVV,idxAAV,idxSV,sliceV,sliceSV,boundV,szIs,storeOp,storeS,setRowV,eff,extV,buildV,splice,eqSV,fitsL,eqCells,eqCell,minmaxV,capV,binBV,nilCheckV,bytesV,V.cells,V.stays,c38,r1,r2,q0,q194,q224,q225,q237,q238,q240,q241,q244,p160_191,p128_159,p144_191,p128_143,m1_1,m2_1,m1_2,m2_2,m1_3,f0,f194,f224,f225,f237,f238,f240,f241,f244,g0])
      exact RetV.same (by simp [sizeR, f0, f194, f224, f225, f237, f238, f240, f241, f244, g0]))
  · have f0 : inB s i 0 127 = false := by simp [inB]; omega
    have f194 : inB s i 194 223 = false := by simp [inB]; omega
    have f224 : inB s i 224 224 = true := by simp [inB]; omega
    have f225 : inB s i 225 236 = false := by simp [inB]; omega
    have f237 : inB s i 237 237 = false := by simp [inB]; omega
    have f238 : inB s i 238 239 = false := by simp [inB]; omega
    have f240 : inB s i 240 240 = false := by simp [inB]; omega
    have f241 : inB s i 241 243 = false := by simp [inB]; omega
    have f244 : inB s i 244 244 = false := by simp [inB]; omega
    cases g0 : inB s (i + 1) 160 191 <;> cases g1 : moreB s (i + 2) 1 <;> (
      (refine Runs.of_step OE2 300 ?_; simp -implicitDefEqProofs only [BB,seval,effR_some,effD_some,← decide_not,okind,vpre,vpure,intBin,intPre,strBin,strPre,popTo,argSlots,fldV,fldAV,subCells,idxVV,idxAAV,idxSV,sliceV,sliceSV,boundV,szIs,storeOp,storeS,setRowV,eff,extV,buildV,splice,eqSV,fitsL,eqCells,eqCell,minmaxV,capV,binBV,nilCheckV,bytesV,V.cells,V.stays,c38,r1,r2,q0,q194,q224,q225,q237,q238,q240,q241,q244,p160_191,p128_159,p144_191,p128_143,m1_1,m2_1,m1_2,m2_2,m1_3,f0,f194,f224,f225,f237,f238,f240,f241,f244,g0,g1])
      exact RetV.same (by simp [sizeR, f0, f194, f224, f225, f237, f238, f240, f241, f244, g0, g1]))
  · have f0 : inB s i 0 127 = false := by simp [inB]; omega
    have f194 : inB s i 194 223 = false := by simp [inB]; omega
    have f224 : inB s i 224 224 = false := by simp [inB]; omega
    have f225 : inB s i 225 236 = true := by simp [inB]; omega
    have f237 : inB s i 237 237 = false := by simp [inB]; omega
    have f238 : inB s i 238 239 = false := by simp [inB]; omega
    have f240 : inB s i 240 240 = false := by simp [inB]; omega
    have f241 : inB s i 241 243 = false := by simp [inB]; omega
    have f244 : inB s i 244 244 = false := by simp [inB]; omega
    cases g0 : moreB s (i + 1) 2 <;> (
      (refine Runs.of_step OE2 300 ?_; simp -implicitDefEqProofs only [BB,seval,effR_some,effD_some,← decide_not,okind,vpre,vpure,intBin,intPre,strBin,strPre,popTo,argSlots,fldV,fldAV,subCells,idxVV,idxAAV,idxSV,sliceV,sliceSV,boundV,szIs,storeOp,storeS,setRowV,eff,extV,buildV,splice,eqSV,fitsL,eqCells,eqCell,minmaxV,capV,binBV,nilCheckV,bytesV,V.cells,V.stays,c38,r1,r2,q0,q194,q224,q225,q237,q238,q240,q241,q244,p160_191,p128_159,p144_191,p128_143,m1_1,m2_1,m1_2,m2_2,m1_3,f0,f194,f224,f225,f237,f238,f240,f241,f244,g0])
      exact RetV.same (by simp [sizeR, f0, f194, f224, f225, f237, f238, f240, f241, f244, g0]))
  · have f0 : inB s i 0 127 = false := by simp [inB]; omega
    have f194 : inB s i 194 223 = false := by simp [inB]; omega
    have f224 : inB s i 224 224 = false := by simp [inB]; omega
    have f225 : inB s i 225 236 = false := by simp [inB]; omega
    have f237 : inB s i 237 237 = true := by simp [inB]; omega
    have f238 : inB s i 238 239 = false := by simp [inB]; omega
    have f240 : inB s i 240 240 = false := by simp [inB]; omega
    have f241 : inB s i 241 243 = false := by simp [inB]; omega
    have f244 : inB s i 244 244 = false := by simp [inB]; omega
    cases g0 : inB s (i + 1) 128 159 <;> cases g1 : moreB s (i + 2) 1 <;> (
      (refine Runs.of_step OE2 300 ?_; simp -implicitDefEqProofs only [BB,seval,effR_some,effD_some,← decide_not,okind,vpre,vpure,intBin,intPre,strBin,strPre,popTo,argSlots,fldV,fldAV,subCells,idxVV,idxAAV,idxSV,sliceV,sliceSV,boundV,szIs,storeOp,storeS,setRowV,eff,extV,buildV,splice,eqSV,fitsL,eqCells,eqCell,minmaxV,capV,binBV,nilCheckV,bytesV,V.cells,V.stays,c38,r1,r2,q0,q194,q224,q225,q237,q238,q240,q241,q244,p160_191,p128_159,p144_191,p128_143,m1_1,m2_1,m1_2,m2_2,m1_3,f0,f194,f224,f225,f237,f238,f240,f241,f244,g0,g1])
      exact RetV.same (by simp [sizeR, f0, f194, f224, f225, f237, f238, f240, f241, f244, g0, g1]))
  · have f0 : inB s i 0 127 = false := by simp [inB]; omega
    have f194 : inB s i 194 223 = false := by simp [inB]; omega
    have f224 : inB s i 224 224 = false := by simp [inB]; omega
    have f225 : inB s i 225 236 = false := by simp [inB]; omega
    have f237 : inB s i 237 237 = false := by simp [inB]; omega
    have f238 : inB s i 238 239 = true := by simp [inB]; omega
    have f240 : inB s i 240 240 = false := by simp [inB]; omega
    have f241 : inB s i 241 243 = false := by simp [inB]; omega
    have f244 : inB s i 244 244 = false := by simp [inB]; omega
    cases g0 : moreB s (i + 1) 2 <;> (
      (refine Runs.of_step OE2 300 ?_; simp -implicitDefEqProofs only [BB,seval,effR_some,effD_some,← decide_not,okind,vpre,vpure,intBin,intPre,strBin,strPre,popTo,argSlots,fldV,fldAV,subCells,idxVV,idxAAV,idxSV,sliceV,sliceSV,boundV,szIs,storeOp,storeS,setRowV,eff,extV,buildV,splice,eqSV,fitsL,eqCells,eqCell,minmaxV,capV,binBV,nilCheckV,bytesV,V.cells,V.stays,c38,r1,r2,q0,q194,q224,q225,q237,q238,q240,q241,q244,p160_191,p128_159,p144_191,p128_143,m1_1,m2_1,m1_2,m2_2,m1_3,f0,f194,f224,f225,f237,f238,f240,f241,f244,g0])
      exact RetV.same (by simp [sizeR, f0, f194, f224, f225, f237, f238, f240, f241, f244, g0]))
  · have f0 : inB s i 0 127 = false := by simp [inB]; omega
    have f194 : inB s i 194 223 = false := by simp [inB]; omega
    have f224 : inB s i 224 224 = false := by simp [inB]; omega
    have f225 : inB s i 225 236 = false := by simp [inB]; omega
    have f237 : inB s i 237 237 = false := by simp [inB]; omega
    have f238 : inB s i 238 239 = false := by simp [inB]; omega
    have f240 : inB s i 240 240 = true := by simp [inB]; omega
    have f241 : inB s i 241 243 = false := by simp [inB]; omega
    have f244 : inB s i 244 244 = false := by simp [inB]; omega
    cases g0 : inB s (i + 1) 144 191 <;> cases g1 : moreB s (i + 2) 2 <;> (
      (refine Runs.of_step OE2 300 ?_; simp -implicitDefEqProofs only [BB,seval,effR_some,effD_some,← decide_not,okind,vpre,vpure,intBin,intPre,strBin,strPre,popTo,argSlots,fldV,fldAV,subCells,idxVV,idxAAV,idxSV,sliceV,sliceSV,boundV,szIs,storeOp,storeS,setRowV,eff,extV,buildV,splice,eqSV,fitsL,eqCells,eqCell,minmaxV,capV,binBV,nilCheckV,bytesV,V.cells,V.stays,c38,r1,r2,q0,q194,q224,q225,q237,q238,q240,q241,q244,p160_191,p128_159,p144_191,p128_143,m1_1,m2_1,m1_2,m2_2,m1_3,f0,f194,f224,f225,f237,f238,f240,f241,f244,g0,g1])
      exact RetV.same (by simp [sizeR, f0, f194, f224, f225, f237, f238, f240, f241, f244, g0, g1]))
  · have f0 : inB s i 0 127 = false := by simp [inB]; omega
    have f194 : inB s i 194 223 = false := by simp [inB]; omega
    have f224 : inB s i 224 224 = false := by simp [inB]; omega
    have f225 : inB s i 225 236 = false := by simp [inB]; omega
    have f237 : inB s i 237 237 = false := by simp [inB]; omega
    have f238 : inB s i 238 239 = false := by simp [inB]; omega
    have f240 : inB s i 240 240 = false := by simp [inB]; omega
    have f241 : inB s i 241 243 = true := by simp [inB]; omega
    have f244 : inB s i 244 244 = false := by simp [inB]; omega
    cases g0 : moreB s (i + 1) 3 <;> (
      (refine Runs.of_step OE2 300 ?_; simp -implicitDefEqProofs only [BB,seval,effR_some,effD_some,← decide_not,okind,vpre,vpure,intBin,intPre,strBin,strPre,popTo,argSlots,fldV,fldAV,subCells,idxVV,idxAAV,idxSV,sliceV,sliceSV,boundV,szIs,storeOp,storeS,setRowV,eff,extV,buildV,splice,eqSV,fitsL,eqCells,eqCell,minmaxV,capV,binBV,nilCheckV,bytesV,V.cells,V.stays,c38,r1,r2,q0,q194,q224,q225,q237,q238,q240,q241,q244,p160_191,p128_159,p144_191,p128_143,m1_1,m2_1,m1_2,m2_2,m1_3,f0,f194,f224,f225,f237,f238,f240,f241,f244,g0])
      exact RetV.same (by simp [sizeR, f0, f194, f224, f225, f237, f238, f240, f241, f244, g0]))
  · have f0 : inB s i 0 127 = false := by simp [inB]; omega
    have f194 : inB s i 194 223 = false := by simp [inB]; omega
    have f224 : inB s i 224 224 = false := by simp [inB]; omega
    have f225 : inB s i 225 236 = false := by simp [inB]; omega
    have f237 : inB s i 237 237 = false := by simp [inB]; omega
    have f238 : inB s i 238 239 = false := by simp [inB]; omega
    have f240 : inB s i 240 240 = false := by simp [inB]; omega
    have f241 : inB s i 241 243 = false := by simp [inB]; omega
    have f244 : inB s i 244 244 = true := by simp [inB]; omega
    cases g0 : inB s (i + 1) 128 143 <;> cases g1 : moreB s (i + 2) 2 <;> (
      (refine Runs.of_step OE2 300 ?_; simp -implicitDefEqProofs only [BB,seval,effR_some,effD_some,← decide_not,okind,vpre,vpure,intBin,intPre,strBin,strPre,popTo,argSlots,fldV,fldAV,subCells,idxVV,idxAAV,idxSV,sliceV,sliceSV,boundV,szIs,storeOp,storeS,setRowV,eff,extV,buildV,splice,eqSV,fitsL,eqCells,eqCell,minmaxV,capV,binBV,nilCheckV,bytesV,V.cells,V.stays,c38,r1,r2,q0,q194,q224,q225,q237,q238,q240,q241,q244,p160_191,p128_159,p144_191,p128_143,m1_1,m2_1,m1_2,m2_2,m1_3,f0,f194,f224,f225,f237,f238,f240,f241,f244,g0,g1])
      exact RetV.same (by simp [sizeR, f0, f194, f224, f225, f237, f238, f240, f241, f244, g0, g1]))
  · have f0 : inB s i 0 127 = false := by simp [inB]; omega
    have f194 : inB s i 194 223 = false := by simp [inB]; omega
    have f224 : inB s i 224 224 = false := by simp [inB]; omega
    have f225 : inB s i 225 236 = false := by simp [inB]; omega
    have f237 : inB s i 237 237 = false := by simp [inB]; omega
    have f238 : inB s i 238 239 = false := by simp [inB]; omega
    have f240 : inB s i 240 240 = false := by simp [inB]; omega
    have f241 : inB s i 241 243 = false := by simp [inB]; omega
    have f244 : inB s i 244 244 = false := by simp [inB]; omega
    (
      (refine Runs.of_step OE2 300 ?_; simp -implicitDefEqProofs only [BB,seval,effR_some,effD_some,← decide_not,okind,vpre,vpure,intBin,intPre,strBin,strPre,popTo,argSlots,fldV,fldAV,subCells,idxVV,idxAAV,idxSV,sliceV,sliceSV,boundV,szIs,storeOp,storeS,setRowV,eff,extV,buildV,splice,eqSV,fitsL,eqCells,eqCell,minmaxV,capV,binBV,nilCheckV,bytesV,V.cells,V.stays,c38,r1,r2,q0,q194,q224,q225,q237,q238,q240,q241,q244,p160_191,p128_159,p144_191,p128_143,m1_1,m2_1,m1_2,m2_2,m1_3,f0,f194,f224,f225,f237,f238,f240,f241,f244])
      exact RetV.same (by simp [sizeR, f0, f194, f224, f225, f237, f238, f240, f241, f244]))
end Go.Vc
namespace Go.Vc
theorem sizeR_cases (s : List UInt8) (i : Nat) : sizeR s i = 0 ∨ (sizeR s i = 1 ∧ byt s i ≤ 127) ∨ (sizeR s i = 2 ∧ 194 ≤ byt s i ∧ byt s i ≤ 223 ∧ 128 ≤ byt s (i + 1) ∧ byt s (i + 1) ≤ 191) ∨
    (sizeR s i = 3 ∧ 224 ≤ byt s i ∧ byt s i ≤ 239 ∧ 128 ≤ byt s (i + 1) ∧ byt s (i + 1) ≤ 191 ∧ 128 ≤ byt s (i + 2) ∧ byt s (i + 2) ≤ 191) ∨
    (sizeR s i = 4 ∧ 240 ≤ byt s i ∧ byt s i ≤ 244 ∧ 128 ≤ byt s (i + 1) ∧ byt s (i + 1) ≤ 191 ∧ 128 ≤ byt s (i + 2) ∧ byt s (i + 2) ≤ 191 ∧ 128 ≤ byt s (i + 3) ∧ byt s (i + 3) ≤ 191) := by
  unfold sizeR
  repeat' split
  all_goals (simp [inB, moreB, Nat.add_assoc] at *)
  all_goals omega
theorem byt_some {s : List UInt8} {i : Nat} (h : byt s i ≤ 255) : i < s.length := byt_lt.1 (by omega)
theorem sizeR_le {s : List UInt8} {i : Nat} (h : i < s.length) : i + sizeR s i ≤ s.length := by
  rcases sizeR_cases s i with h | h | h | h | h
  · omega
  · omega
  · have := byt_some (s := s) (i := i + 1) (by omega); omega
  · have := byt_some (s := s) (i := i + 2) (by omega); omega
  · have := byt_some (s := s) (i := i + 3) (by omega); omega
theorem sizeR_ascii {s : List UInt8} {i : Nat} (h : byt s i ≤ 127) : sizeR s i = 1 := by
  have : inB s i 0 127 = true := by simp [inB]; omega
  simp [sizeR, this]
def badI (s : List UInt8) (at' : Nat) : Option Nat :=
  if h : at' < s.length then (if hz : sizeR s at' = 0 then some at' else badI s (at' + sizeR s at')) else none
termination_by s.length - at'
theorem badI_end {s : List UInt8} {i : Nat} (h : ¬ i < s.length) : badI s i = none := by rw [badI, dif_neg h]
theorem badI_bad {s : List UInt8} {i : Nat} (h : i < s.length) (hz : sizeR s i = 0) : badI s i = some i := by rw [badI, dif_pos h, dif_pos hz]
theorem badI_step {s : List UInt8} {i : Nat} (h : i < s.length) (hz : sizeR s i ≠ 0) : badI s i = badI s (i + sizeR s i) := by rw [badI.eq_def s i, dif_pos h, dif_neg hz]
def digLen : List UInt8 → Nat
  | [] => 0
  | b :: l => if 48 ≤ b.toNat ∧ b.toNat ≤ 57 then digLen l + 1 else 0
theorem digLen_le : ∀ l, digLen l ≤ l.length
  | [] => by simp [digLen]
  | b :: l => by
    have := digLen_le l
    simp only [digLen]
    split <;> simp <;> omega
def numR (l : List UInt8) : Nat := l.foldl (fun n b => 10 * n + (b.toNat - 48)) 0
structure Tk where
  kind : Int
  sign : Int
  n : Int
  at' : Int
  deriving DecidableEq
inductive Res where
  | ok (l : List Tk)
  | bad (i : Nat)
def Res.cons (t : Tk) : Res → Res
  | .ok l => .ok (t :: l)
  | .bad i => .bad i
def Res.app (p : List Tk) : Res → Res
  | .ok l => .ok (p ++ l)
  | .bad i => .bad i
theorem Res.app_nil (r : Res) : r.app [] = r := by cases r <;> rfl
theorem Res.app_cons (p : List Tk) (t : Tk) (r : Res) : (r.cons t).app p = r.app (p ++ [t]) := by cases r <;> simp [Res.app, Res.cons]
def digsAt (s : List UInt8) (i : Nat) : List UInt8 := (s.drop i).take (digLen (s.drop i))
def numBad (l : List UInt8) : Bool := decide (numR l > 1099511627776) || (decide (l.head? = some 48) && decide (l.length > 1))
theorem digLen_pos {s : List UInt8} {i : Nat} (h1 : 48 ≤ byt s i) (h2 : byt s i ≤ 57) : 0 < digLen (s.drop i) := by
  have hl := byt_some (s := s) (i := i) (by omega)
  rw [List.drop_eq_getElem_cons hl, digLen]
  have : byt s i = (s[i]).toNat := by simp [byt, hl]
  rw [if_pos (by omega)]
  omega
def ofI (s : List UInt8) (c : Bool) (i : Nat) : Res :=
  if h : i < s.length then
    if hz : sizeR s i = 0 then .bad i
    else if c then ofI s (decide (byt s i ≠ 10)) (i + sizeR s i)
    else if byt s i = 35 then ofI s true (i + 1)
    else if byt s i = 32 ∨ byt s i = 9 ∨ byt s i = 10 then ofI s false (i + 1)
    else if hd : 48 ≤ byt s i ∧ byt s i ≤ 57 then
      if numBad (digsAt s i) then .bad i
      else (ofI s false (i + digLen (s.drop i))).cons ⟨2, 0, numR (digsAt s i), i⟩
    else (ofI s false (i + sizeR s i)).cons ⟨1, runeR s i (sizeR s i), 0, i⟩
  else .ok []
termination_by s.length - i
decreasing_by
  all_goals (try have := digLen_pos hd.1 hd.2)
  all_goals omega
def decR (s : List UInt8) (i : Nat) : Nat × Nat := if sizeR s i = 0 then (65533, 1) else (runeR s i (sizeR s i), sizeR s i)
theorem decR_pos (s : List UInt8) (i : Nat) : 0 < (decR s i).2 := by
  unfold decR; split <;> simp <;> omega
def lineEnd (s : List UInt8) (i : Nat) : Nat := match (s.drop i).findIdx? (· == 10) with
  | some k => i + k
  | none => s.length
def numT (l : List UInt8) : Int := if numBad l then -1 else numR l
def nextI (s : List UInt8) (skip i c : Nat) : Option Tk × Nat :=
  if i < skip ∨ c = 32 ∨ c = 9 ∨ c = 10 then (none, skip)
  else if c = 35 then (none, lineEnd s i)
  else if 48 ≤ c ∧ c ≤ 57 then (some ⟨2, 0, numT (digsAt s i), i⟩, i + digLen (s.drop i))
  else (some ⟨1, c, 0, i⟩, skip)
def allI (s : List UInt8) (skip : Nat) (i : Nat) : List Tk :=
  if h : i < s.length then
    have := decR_pos s i
    (nextI s skip i (decR s i).1).1.toList ++ allI s (nextI s skip i (decR s i).1).2 (i + (decR s i).2)
  else []
termination_by s.length - i
def fromT : List Tk → Res
  | [] => .ok []
  | t :: l => if t.n < 0 then .bad t.at'.toNat else (fromT l).cons t
def ofC (s : List UInt8) : Res := match badI s 0 with
  | none => fromT (allI s 0 0)
  | some e => match fromT (allI (s.take e) 0 0) with
    | .ok _ => .bad e
    | .bad p => .bad p
end Go.Vc
namespace Go.Vc
open Go.Proofs
theorem inR_i32 {n : Int} (h1 : -2147483648 ≤ n) (h2 : n < 2147483648) : inR .i32 n := by
  unfold inR
  rw [IntKind.wrap_i32]
  omega
def accR (s : List UInt8) (i : Nat) (n0 : Int) : Nat → Int
  | 0 => n0
  | j + 1 => 64 * accR s i n0 j + (byt s (i + (j + 1)) : Int) - 128
theorem accR_bound {s : List UInt8} {i f k : Nat} (h0 : f ≤ byt s i) (h1 : byt s i ≤ f + 31) (hk : k ≤ 4) (hb : ∀ j, 0 < j → j < k → 128 ≤ byt s (i + j) ∧ byt s (i + j) ≤ 191) (j : Nat) (hj : j < k) :
    0 ≤ accR s i ((byt s i : Int) - f) j ∧ accR s i ((byt s i : Int) - f) j ≤ 8388607 ∧ (j + 1 < k → accR s i ((byt s i : Int) - f) j ≤ 131071) := by
  have g1 := hb 1
  have g2 := hb 2
  have g3 := hb 3
  rcases (show j = 0 ∨ j = 1 ∨ j = 2 ∨ j = 3 by omega) with rfl | rfl | rfl | rfl <;> simp only [accR,Nat.zero_add,Nat.reduceAdd] <;> omega
set_option maxRecDepth 100000 in
theorem rune_c (s : List UInt8) (i k : Nat) (hi : i ≤ 100000000) (hk : sizeR s i = k) (hz : k ≠ 0) : PFun Tryz.prog 40 [.str s, vI i, vI k] (.int .i32 (runeR s i k)) := fun σ => by
  refine Contract.of_runs Tryz.func40 e40 k40 (by simp [c40]) ?_
  have hc := sizeR_cases s i
  rw [hk] at hc
  by_cases h1 : k = 1
  · subst h1
    have hb : byt s i ≤ 127 := by omega
    have hx := idx_byt (byt_some (s := s) (i := i) (by omega))
    have hr : inR .i32 (byt s i : Int) := inR_i32 (by omega) (by omega)
    refine Runs.mix 6 ?_
    (refine Runs.of_step Orc.nothing 300 ?_; simp -implicitDefEqProofs only [BB,seval,effR_some,effD_some,← decide_not,okind,vpre,vpure,intBin,intPre,strBin,strPre,popTo,argSlots,fldV,fldAV,subCells,idxVV,idxAAV,sliceV,sliceSV,boundV,szIs,storeOp,storeS,setRowV,eff,extV,buildV,splice,eqSV,fitsL,eqCells,eqCell,minmaxV,capV,binBV,nilCheckV,bytesV,V.cells,V.stays,Orc.nothing,c40,hx,hr,Int.natCast_one])
    exact RetV.same rfl
  · obtain ⟨f, hf, hbs, hfr, hkf⟩ : ∃ f : Nat, f ≤ byt s i ∧ byt s i ≤ f + 31 ∧ ([V.int .i64 0, .int .i64 0, .int .i64 192, .int .i64 224, .int .i64 240] : List V)[k]? = some (vI f) ∧ ((k = 2 ∧ f = 192) ∨ (k = 3 ∧ f = 224) ∨ (k = 4 ∧ f = 240)) := by
      rcases (show k = 2 ∨ k = 3 ∨ k = 4 by omega) with rfl | rfl | rfl
      · exact ⟨192, by omega, by omega, rfl, by omega⟩
      · exact ⟨224, by omega, by omega, rfl, by omega⟩
      · exact ⟨240, by omega, by omega, rfl, by omega⟩
    have hbi : byt s i ≤ 255 := by omega
    have hx := idx_byt (byt_some (s := s) (i := i) hbi)
    have hne : ((k : Int) = 1) = False := by simp; omega
    have hr : inR .i64 (byt s i : Int) := inR_i64 (by omega) (by omega)
    have hr2 : inR .i64 ((byt s i : Int) - f) := inR_i64 (by omega) (by omega)
    refine Runs.mix 6 ?_
    (refine Runs.of_step Orc.nothing 300 ?_; simp -implicitDefEqProofs only [BB,seval,← decide_not,okind,vpre,vpure,intBin,intPre,strBin,strPre,popTo,argSlots,fldV,fldAV,subCells,idxVV,idxAAV,sliceV,sliceSV,boundV,szIs,storeOp,storeS,setRowV,eff,extV,buildV,splice,eqSV,fitsL,eqCells,eqCell,minmaxV,capV,binBV,nilCheckV,bytesV,V.cells,V.stays,Orc.nothing,c40,hx,hr,hne])
    refine effR_new fun id1 σ1 s1 a1 f1 => ?_
    have hidx : idxAV σ1 1 (.own id1 0 5) (vI k) = some (.ptr id1 k 0) := by
      simp only [idxAV,a1]
      rw [if_pos (by simp; omega)]
      simp
    have hld : loadV σ1 false 1 (.ptr id1 k 0) = some (vI f) := by
      simp only [loadV,a1,hfr]
      rfl
    simp -implicitDefEqProofs only [BB,seval,← decide_not,okind,vpre,vpure,intBin,intPre,strBin,strPre,popTo,argSlots,fldV,fldAV,subCells,idxVV,idxAAV,sliceV,sliceSV,boundV,szIs,storeOp,storeS,setRowV,eff,extV,buildV,splice,eqSV,fitsL,eqCells,eqCell,minmaxV,capV,binBV,nilCheckV,bytesV,V.cells,V.stays,hx,hr,hr2,hne,hidx,hld]
    have hbd := accR_bound (s := s) (i := i) (f := f) (k := k) hf hbs (by omega) (fun j h1 h2 => by
      rcases (show j = 1 ∨ j = 2 ∨ j = 3 by omega) with rfl | rfl | rfl <;> omega)
    have hmore : ∀ j, 0 < j → j < k → byt s (i + j) ≤ 191 := fun j h1 h2 => by
      rcases (show j = 1 ∨ j = 2 ∨ j = 3 by omega) with rfl | rfl | rfl <;> omega
    refine Runs.loop (fun m st => ∃ j : Nat, j < k ∧ m = k - j ∧ SubStore σ st.σ ∧ st.s 0 = .str s ∧ st.s 1 = vI i ∧ st.s 2 = vI k ∧ st.s 8 = vI (accR s i ((byt s i : Int) - f) j) ∧ st.s 9 = vI ((j : Int) + 1)) k ?_ ?_
    · exact ⟨0, by omega, by omega, s1, rfl, rfl, rfl, rfl, rfl⟩
    · rintro m ⟨s', σ'⟩ ⟨j, hj, rfl, hsub, g0, g1, g2, g8, g9⟩
      simp only at hsub g0 g1 g2 g8 g9
      obtain ⟨b1, b2, b3⟩ := hbd j hj
      refine Runs.mix 10 ?_
      by_cases hlt : j + 1 < k
      · have hlt' : ((j : Int) + 1 < (k : Int)) = True := by simp; omega
        have hadd : ((i : Int) + ((j : Int) + 1)) = ((i + (j + 1) : Nat) : Int) := by omega
        have hin : inR .i64 ((i + (j + 1) : Nat) : Int) := inR_i64 (by omega) (by omega)
        have hb := hmore (j + 1) (by omega) hlt
        have hx2 := idx_byt (byt_some (s := s) (i := i + (j + 1)) (by omega))
        have hin2 : inR .i64 (byt s (i + (j + 1)) : Int) := inR_i64 (by omega) (by omega)
        have b4 := b3 hlt
        have hin3 : inR .i64 (64 * accR s i ((byt s i : Int) - f) j) := inR_i64 (by omega) (by omega)
        have hin4 : inR .i64 (64 * accR s i ((byt s i : Int) - f) j + (byt s (i + (j + 1)) : Int)) := inR_i64 (by omega) (by omega)
        have hin5 : inR .i64 (64 * accR s i ((byt s i : Int) - f) j + (byt s (i + (j + 1)) : Int) - 128) := inR_i64 (by omega) (by omega)
        have hin6 : inR .i64 ((j : Int) + 1 + 1) := inR_i64 (by omega) (by omega)
        (refine Runs.of_step Orc.nothing 300 ?_; simp -implicitDefEqProofs only [BB,seval,effR_some,effD_some,← decide_not,okind,vpre,vpure,intBin,intPre,strBin,strPre,popTo,argSlots,fldV,fldAV,subCells,idxVV,idxAAV,sliceV,sliceSV,boundV,szIs,storeOp,storeS,setRowV,eff,extV,buildV,splice,eqSV,fitsL,eqCells,eqCell,minmaxV,capV,binBV,nilCheckV,bytesV,V.cells,V.stays,Orc.nothing,g0,g1,g2,g8,g9,hlt',hadd,hin,hx2,hin2,hin3,hin4,hin5,hin6])
        exact ⟨_, by omega, j + 1, by omega, rfl, hsub, rfl, by simp [accR]⟩
      · have hlt' : ((j : Int) + 1 < (k : Int)) = False := by simp; omega
        have hin : inR .i32 (accR s i ((byt s i : Int) - f) j) := inR_i32 (by omega) (by omega)
        (refine Runs.of_step Orc.nothing 300 ?_; simp -implicitDefEqProofs only [BB,seval,effR_some,effD_some,← decide_not,okind,vpre,vpure,intBin,intPre,strBin,strPre,popTo,argSlots,fldV,fldAV,subCells,idxVV,idxAAV,sliceV,sliceSV,boundV,szIs,storeOp,storeS,setRowV,eff,extV,buildV,splice,eqSV,fitsL,eqCells,eqCell,minmaxV,capV,binBV,nilCheckV,bytesV,V.cells,V.stays,Orc.nothing,g0,g1,g2,g8,g9,hlt',hin])
        refine RetV.pure hsub ?_
        simp only [V.int.injEq,true_and]
        have e : j + 1 = k := by omega
        rcases hkf with ⟨rfl, rfl⟩ | ⟨rfl, rfl⟩ | ⟨rfl, rfl⟩
        · obtain rfl : j = 1 := by omega
          show _ = ((64 * (byt s i - 192) + byt s (i + 1) - 128 : Nat) : Int)
          simp only [accR,Nat.zero_add,Nat.reduceAdd]
          omega
        · obtain rfl : j = 2 := by omega
          show _ = ((64 * (64 * (byt s i - 224) + byt s (i + 1) - 128) + byt s (i + 2) - 128 : Nat) : Int)
          simp only [accR,Nat.zero_add,Nat.reduceAdd]
          omega
        · obtain rfl : j = 3 := by omega
          show _ = ((64 * (64 * (64 * (byt s i - 240) + byt s (i + 1) - 128) + byt s (i + 2) - 128) + byt s (i + 3) - 128 : Nat) : Int)
          simp only [accR,Nat.zero_add,Nat.reduceAdd]
          omega
end Go.Vc
namespace Go.Vc
open Go.Proofs
def isPre (a b : List UInt8) : Bool := decide (b.length ≤ a.length) && decide (a.take b.length = b)
theorem prefix31_c (a b : List UInt8) : PFun Tryz.prog 64 [.str a, .str b] (.bool (isPre a b)) := fun σ => by
  refine Contract.of_runs Tryz.func64 e64 k64 (by simp [c64]) ?_
  refine Runs.mix 5 ?_
  by_cases h : b.length ≤ a.length
  · have h1 : ((a.length : Int) ≥ (b.length : Int)) = True := by simp; omega
    have h2 : sliceSV (.str a) none (some (vI b.length)) = some (.str (a.take b.length)) := by
      simp only [sliceSV,boundV]
      rw [if_pos (by omega)]
      simp
    (refine Runs.of_step Orc.nothing 300 ?_; simp -implicitDefEqProofs only [BB,seval,effR_some,effD_some,← decide_not,okind,vpre,vpure,intBin,intPre,strBin,strPre,popTo,argSlots,fldV,fldAV,subCells,idxVV,idxAAV,idxSV,sliceV,boundV,szIs,storeOp,storeS,setRowV,eff,extV,buildV,splice,eqSV,fitsL,eqCells,eqCell,minmaxV,capV,binBV,nilCheckV,bytesV,V.cells,V.stays,Orc.nothing,c64,h1,h2])
    exact RetV.same (by simp [isPre, h])
  · have h1 : ((a.length : Int) ≥ (b.length : Int)) = False := by simp; omega
    (refine Runs.of_step Orc.nothing 300 ?_; simp -implicitDefEqProofs only [BB,seval,effR_some,effD_some,← decide_not,okind,vpre,vpure,intBin,intPre,strBin,strPre,popTo,argSlots,fldV,fldAV,subCells,idxVV,idxAAV,idxSV,sliceV,sliceSV,boundV,szIs,storeOp,storeS,setRowV,eff,extV,buildV,splice,eqSV,fitsL,eqCells,eqCell,minmaxV,capV,binBV,nilCheckV,bytesV,V.cells,V.stays,Orc.nothing,c64,h1])
    exact RetV.same (by simp [isPre, h])
theorem prefix_c (a b : List UInt8) : PFun Tryz.prog 44 [.str a, .str b] (.bool (isPre a b)) := fun σ => by
  refine Contract.of_runs Tryz.func44 e44 k44 (by simp [c44]) ?_
  refine Runs.mix 5 ?_
  (refine Runs.of_step Orc.nothing 300 ?_; simp -implicitDefEqProofs only [BB,seval,effR_some,effD_some,← decide_not,okind,vpre,vpure,intBin,intPre,strBin,strPre,popTo,argSlots,fldV,fldAV,subCells,idxVV,idxAAV,idxSV,sliceV,sliceSV,boundV,szIs,storeOp,storeS,setRowV,eff,extV,buildV,splice,eqSV,fitsL,eqCells,eqCell,minmaxV,capV,binBV,nilCheckV,bytesV,V.cells,V.stays,Orc.nothing,c44])
  refine Runs.pcall rfl rfl rfl (prefix31_c a b σ) ?_
  (refine Runs.of_step Orc.nothing 300 ?_; simp -implicitDefEqProofs only [BB,seval,effR_some,effD_some,← decide_not,okind,vpre,vpure,intBin,intPre,strBin,strPre,popTo,argSlots,fldV,fldAV,subCells,idxVV,idxAAV,idxSV,sliceV,sliceSV,boundV,szIs,storeOp,storeS,setRowV,eff,extV,buildV,splice,eqSV,fitsL,eqCells,eqCell,minmaxV,capV,binBV,nilCheckV,bytesV,V.cells,V.stays,Orc.nothing])
  exact RetV.same rfl
def g27 : List V → Option V
  | [.int .i32 c] => some (.bool (isDig c))
  | _ => none
def OE4 : Orc Tryz.prog := Orc.nothing.one 49 g27 fun args v h => by
  unfold g27 at h
  split at h
  · simp only [Option.some.injEq] at h; subst h; exact digit_c _
  · cases h
theorem OE4_27 (c : Int) (σ : Store) : OE4.get 49 [.int .i32 c] σ = some (.bool (isDig c)) := rfl
theorem digits_c (s : List UInt8) (hs : s.length ≤ 1000000000) : PFun Tryz.prog 50 [.str s] (vI (digLen s)) := fun σ => by
  refine Contract.of_runs Tryz.func50 e50 k50 (by simp [c50]) ?_
  refine Runs.mix 4 ?_
  (refine Runs.of_step Orc.nothing 300 ?_; simp -implicitDefEqProofs only [BB,seval,effR_some,effD_some,← decide_not,okind,vpre,vpure,intBin,intPre,strBin,strPre,popTo,argSlots,fldV,fldAV,subCells,idxVV,idxAAV,idxSV,sliceV,sliceSV,boundV,szIs,storeOp,storeS,setRowV,eff,extV,buildV,splice,eqSV,fitsL,eqCells,eqCell,minmaxV,capV,binBV,nilCheckV,bytesV,V.cells,V.stays,Orc.nothing,c50])
  refine Runs.loop (fun m st => ∃ j : Nat, j ≤ s.length ∧ m = s.length - j ∧ digLen s = j + digLen (s.drop j) ∧ st.σ = σ ∧ st.s 0 = .str s ∧ st.s 3 = vI j) s.length ?_ ?_
  · exact ⟨0, by omega, by omega, by simp, rfl, rfl, rfl⟩
  · rintro m ⟨s', σ'⟩ ⟨j, hj, rfl, hp, hσ, h0, h3⟩
    simp only at h0 h3 hσ
    subst hσ
    refine Runs.mix 4 ?_
    by_cases hlt : j < s.length
    · have hlt' : ((j : Int) < (s.length : Int)) = True := by simp; omega
      have hx := idx_byt hlt
      have hbl : byt s j < 256 := byt_lt.2 hlt
      have hr : inR .i32 (byt s j : Int) := inR_i32 (by omega) (by omega)
      have hd : digLen (s.drop j) = if 48 ≤ byt s j ∧ byt s j ≤ 57 then digLen (s.drop (j + 1)) + 1 else 0 := by
        rw [List.drop_eq_getElem_cons hlt, digLen]
        simp [byt, hlt]
      have hin : inR .i64 ((j : Int) + 1) := inR_i64 (by omega) (by omega)
      by_cases hb : 48 ≤ byt s j ∧ byt s j ≤ 57
      · have hq : OE4.get 49 [.int .i32 (byt s j : Int)] σ' = some (.bool true) := by rw [OE4_27]; simp [isDig]; omega
        (refine Runs.of_step OE4 300 ?_; simp -implicitDefEqProofs only [BB,seval,effR_some,effD_some,← decide_not,okind,vpre,vpure,intBin,intPre,strBin,strPre,popTo,argSlots,fldV,fldAV,subCells,idxVV,idxAAV,sliceV,sliceSV,boundV,szIs,storeOp,storeS,setRowV,eff,extV,buildV,splice,eqSV,fitsL,eqCells,eqCell,minmaxV,capV,binBV,nilCheckV,bytesV,V.cells,V.stays,h0,h3,hlt',hx,hr,hq,hin])
        rw [if_pos hb] at hd
        exact ⟨_, by omega, j + 1, by omega, rfl, by omega, by simp⟩
      · have hq : OE4.get 49 [.int .i32 (byt s j : Int)] σ' = some (.bool false) := by rw [OE4_27]; simp [isDig]; omega
        (refine Runs.of_step OE4 300 ?_; simp -implicitDefEqProofs only [BB,seval,effR_some,effD_some,← decide_not,okind,vpre,vpure,intBin,intPre,strBin,strPre,popTo,argSlots,fldV,fldAV,subCells,idxVV,idxAAV,sliceV,sliceSV,boundV,szIs,storeOp,storeS,setRowV,eff,extV,buildV,splice,eqSV,fitsL,eqCells,eqCell,minmaxV,capV,binBV,nilCheckV,bytesV,V.cells,V.stays,h0,h3,hlt',hx,hr,hq,hin])
        rw [if_neg hb] at hd
        exact RetV.same (by simp only [vI,V.int.injEq,true_and]; omega)
    · have hlt' : ((j : Int) < (s.length : Int)) = False := by simp; omega
      (refine Runs.of_step Orc.nothing 300 ?_; simp -implicitDefEqProofs only [BB,seval,effR_some,effD_some,← decide_not,okind,vpre,vpure,intBin,intPre,strBin,strPre,popTo,argSlots,fldV,fldAV,subCells,idxVV,idxAAV,idxSV,sliceV,sliceSV,boundV,szIs,storeOp,storeS,setRowV,eff,extV,buildV,splice,eqSV,fitsL,eqCells,eqCell,minmaxV,capV,binBV,nilCheckV,bytesV,V.cells,V.stays,Orc.nothing,h0,h3,hlt'])
      refine RetV.same ?_
      rw [hp, List.drop_eq_nil_of_le (by omega)]
      simp [digLen]
def textV : Option Nat → V
  | some p => .tup [vI p, .bool false]
  | none => .tup [vI 0, .bool true]
def g19 : List V → Option V
  | [.str s, .int .i64 i] => if 0 ≤ i ∧ i ≤ 100000000 then some (vI (sizeR s i.toNat)) else none
  | _ => none
end Go.Vc
namespace Go.Vc
open Go.Proofs
theorem decode_decR {s : List UInt8} {i : Nat} (h : i < s.length) : Utf8.decode ⟨s.toArray⟩ i = decR s i := decode_eq s i h
theorem decR_le {s : List UInt8} {i : Nat} (h : i < s.length) : i + (decR s i).2 ≤ s.length := by
  have := sizeR_le h
  unfold decR
  split
  · simp; omega
  · exact this
theorem runeR_lt (s : List UInt8) (i : Nat) : runeR s i (sizeR s i) ≤ 2200000 := by
  rcases sizeR_cases s i with h | h | h | h | h
  · rw [h]; show 0 ≤ _; omega
  · rw [h.1]; show byt s i ≤ _; omega
  · rw [h.1]; show 64 * (byt s i - 192) + byt s (i + 1) - 128 ≤ _; omega
  · rw [h.1]; show 64 * (64 * (byt s i - 224) + byt s (i + 1) - 128) + byt s (i + 2) - 128 ≤ _; omega
  · rw [h.1]; show 64 * (64 * (64 * (byt s i - 240) + byt s (i + 1) - 128) + byt s (i + 2) - 128) + byt s (i + 3) - 128 ≤ _; omega
theorem byt_get {s : List UInt8} {i : Nat} (h : i < s.length) : (s[i]).toNat = byt s i := by simp [byt, h]
theorem isPre_lost {s : List UInt8} {i : Nat} (hi : i < s.length) : isPre (s.drop i) [239, 191, 189] = (decide (byt s i = 239) && decide (byt s (i + 1) = 191) && decide (byt s (i + 2) = 189)) := by
  rw [Bool.eq_iff_iff]
  simp only [isPre,Bool.and_eq_true,decide_eq_true_eq,List.length_cons,List.length_nil,List.length_drop]
  constructor
  · rintro ⟨h1, h2⟩
    have e1 : i + 1 < s.length := by omega
    have e2 : i + 2 < s.length := by omega
    rw [List.drop_eq_getElem_cons hi, List.drop_eq_getElem_cons e1, List.drop_eq_getElem_cons e2] at h2
    simp only [List.take_succ_cons,List.take_zero,List.cons.injEq,and_true] at h2
    obtain ⟨g1, g2, g3⟩ := h2
    rw [← byt_get hi, ← byt_get e1, ← byt_get e2, g1, g2, g3]
    exact ⟨⟨rfl, rfl⟩, rfl⟩
  · rintro ⟨⟨h1, h2⟩, h3⟩
    have e1 : i + 1 < s.length := byt_some (by omega)
    have e2 : i + 2 < s.length := byt_some (by omega)
    refine ⟨by omega, ?_⟩
    rw [List.drop_eq_getElem_cons hi, List.drop_eq_getElem_cons e1, List.drop_eq_getElem_cons e2]
    simp only [List.take_succ_cons,List.take_zero]
    rw [← byt_get hi] at h1
    rw [← byt_get e1] at h2
    rw [← byt_get e2] at h3
    have q1 : s[i] = 239 := UInt8.toNat.inj h1
    have q2 : s[i + 1] = 191 := UInt8.toNat.inj h2
    have q3 : s[i + 2] = 189 := UInt8.toNat.inj h3
    rw [q1, q2, q3]
theorem lost_iff {s : List UInt8} {i : Nat} (hi : i < s.length) : ((decR s i).1 = 65533 ∧ isPre (s.drop i) [239, 191, 189] = false) ↔ sizeR s i = 0 := by
  rw [isPre_lost hi]
  unfold decR
  constructor
  · rintro ⟨h1, h2⟩
    refine Classical.byContradiction fun hz => ?_
    rw [if_neg hz] at h1
    rcases sizeR_cases s i with h | h | h | h | h
    · exact hz h
    · rw [h.1] at h1; have : byt s i = 65533 := h1; omega
    · rw [h.1] at h1; have : 64 * (byt s i - 192) + byt s (i + 1) - 128 = 65533 := h1; omega
    · rw [h.1] at h1; have : 64 * (64 * (byt s i - 224) + byt s (i + 1) - 128) + byt s (i + 2) - 128 = 65533 := h1
      have a1 : byt s i = 239 := by omega
      have a2 : byt s (i + 1) = 191 := by omega
      have a3 : byt s (i + 2) = 189 := by omega
      simp [a1, a2, a3] at h2
    · rw [h.1] at h1; have : 64 * (64 * (64 * (byt s i - 240) + byt s (i + 1) - 128) + byt s (i + 2) - 128) + byt s (i + 3) - 128 = 65533 := h1
      have h4 := h.2
      have := sizeR s i
      have hs4 := h.1
      have : 64 ≤ 64 * (byt s i - 240) + byt s (i + 1) - 128 → False := fun _ => by omega
      have b0 : byt s i = 240 := by omega
      have hq : sizeR s i = 4 := hs4
      unfold sizeR at hq
      simp [inB, moreB, b0] at hq
      omega
  · intro hz
    rw [if_pos hz]
    refine ⟨rfl, ?_⟩
    rw [Bool.eq_false_iff]
    intro h
    simp only [Bool.and_eq_true,decide_eq_true_eq] at h
    obtain ⟨⟨h1, h2⟩, h3⟩ := h
    unfold sizeR at hz
    simp [inB, moreB, h1, h2, Nat.add_assoc, h3] at hz
set_option maxRecDepth 100000 in
theorem text_c (s : List UInt8) (hs : s.length ≤ 10000000) : PFun Tryz.prog 26 [.str s] (textV (badI s 0)) := fun σ => by
  refine Contract.of_runs Tryz.func26 e26 k26 (by simp [c26]) ?_
  refine Runs.mix 8 ?_
  (refine Runs.of_step Orc.nothing 300 ?_; simp -implicitDefEqProofs only [BB,seval,effR_some,effD_some,← decide_not,okind,vpre,vpure,intBin,intPre,strBin,strPre,popTo,argSlots,fldV,fldAV,subCells,idxVV,idxAAV,idxSV,sliceV,sliceSV,boundV,szIs,storeOp,storeS,setRowV,eff,extV,buildV,splice,eqSV,fitsL,eqCells,eqCell,minmaxV,capV,binBV,nilCheckV,bytesV,V.cells,V.stays,Orc.nothing,c26])
  refine Runs.rngS rfl rfl rfl fun id hid => ?_
  have hid : σ id = none := hid
  (refine Runs.of_step Orc.nothing 300 ?_; simp -implicitDefEqProofs only [BB,seval,effR_some,effD_some,← decide_not,okind,vpre,vpure,intBin,intPre,strBin,strPre,popTo,argSlots,fldV,fldAV,subCells,idxVV,idxAAV,idxSV,sliceV,sliceSV,boundV,szIs,storeOp,storeS,setRowV,eff,extV,buildV,splice,eqSV,fitsL,eqCells,eqCell,minmaxV,capV,binBV,nilCheckV,bytesV,V.cells,V.stays,Orc.nothing])
  refine Runs.loop (fun m st => ∃ j : Nat, j ≤ s.length ∧ m = s.length - j ∧ badI s 0 = badI s j ∧ SubStore σ st.σ ∧ st.σ id = some (gh (.stringIter ⟨s.toArray⟩ j)) ∧ st.s 0 = .str s ∧ st.s 7 = .gp id) s.length ?_ ?_
  · exact ⟨0, by omega, by omega, rfl, (SubStore.refl σ).updK hid, upd_same, rfl, rfl⟩
  · rintro m ⟨s', σ'⟩ ⟨j, hj, rfl, hp, hsub, hrow, h0, h7⟩
    simp only at h0 h7 hrow hsub
    refine Runs.mix 8 ?_
    (refine Runs.of_step Orc.nothing 300 ?_; simp -implicitDefEqProofs only [BB,seval,effR_some,effD_some,← decide_not,okind,vpre,vpure,intBin,intPre,strBin,strPre,popTo,argSlots,fldV,fldAV,subCells,idxVV,idxAAV,idxSV,sliceV,sliceSV,boundV,szIs,storeOp,storeS,setRowV,eff,extV,buildV,splice,eqSV,fitsL,eqCells,eqCell,minmaxV,capV,binBV,nilCheckV,bytesV,V.cells,V.stays,Orc.nothing])
    refine Runs.nxtS rfl rfl h7 hrow (fun hlt => ?_) (fun hlt => ?_)
    · rw [decode_decR hlt]
      have hle := decR_le hlt
      have hpos := decR_pos s j
      have hli := lost_iff hlt
      have hbd := @badI_bad s j hlt
      have hbs := @badI_step s j hlt
      have hr1 : (decR s j).1 ≤ 2200000 := by
        unfold decR; split
        · simp
        · exact Nat.le_trans (runeR_lt s j) (by omega)
      have hd2 : sizeR s j ≠ 0 → (decR s j).2 = sizeR s j := fun h => by simp [decR, h]
      have hslice : sliceSV (.str s) (some (vI j)) none = some (.str (s.drop j)) := by
        simp only [sliceSV,boundV]
        rw [if_pos (by omega)]
        rw [show ((s.length : Int)).toNat - ((j : Int)).toNat = s.length - j by omega, Int.toNat_natCast, List.take_of_length_le (by simp)]
      generalize decR s j = d at *
      obtain ⟨c, sz⟩ := d
      simp only at hle hpos hli hr1 hd2
      by_cases hc : c = 65533
      · have hc' : ((c : Int) = 65533) = True := by simp [hc]
        (refine Runs.of_step Orc.nothing 300 ?_; simp -implicitDefEqProofs only [BB,seval,effR_some,effD_some,← decide_not,okind,vpre,vpure,intBin,intPre,strBin,strPre,popTo,argSlots,fldV,fldAV,subCells,idxVV,idxAAV,idxSV,sliceV,boundV,szIs,storeOp,storeS,setRowV,eff,extV,buildV,splice,eqSV,fitsL,eqCells,eqCell,minmaxV,capV,binBV,nilCheckV,bytesV,V.cells,V.stays,Orc.nothing,h0,h7,hc',hslice])
        refine Runs.pcall rfl rfl rfl (prefix_c _ _ _) ?_
        cases hpre : isPre (s.drop j) [239, 191, 189]
        · (refine Runs.of_step Orc.nothing 300 ?_; simp -implicitDefEqProofs only [BB,seval,effR_some,effD_some,← decide_not,okind,vpre,vpure,intBin,intPre,strBin,strPre,popTo,argSlots,fldV,fldAV,subCells,idxVV,idxAAV,idxSV,sliceV,sliceSV,boundV,szIs,storeOp,storeS,setRowV,eff,extV,buildV,splice,eqSV,fitsL,eqCells,eqCell,minmaxV,capV,binBV,nilCheckV,bytesV,V.cells,V.stays,Orc.nothing,h0])
          refine RetV.pure ?_ ?_
          · exact hsub.updK hid
          · rw [hp, hbd (hli.1 ⟨hc, hpre⟩)]; rfl
        · (refine Runs.of_step Orc.nothing 300 ?_; simp -implicitDefEqProofs only [BB,seval,effR_some,effD_some,← decide_not,okind,vpre,vpure,intBin,intPre,strBin,strPre,popTo,argSlots,fldV,fldAV,subCells,idxVV,idxAAV,idxSV,sliceV,sliceSV,boundV,szIs,storeOp,storeS,setRowV,eff,extV,buildV,splice,eqSV,fitsL,eqCells,eqCell,minmaxV,capV,binBV,nilCheckV,bytesV,V.cells,V.stays,Orc.nothing,h0])
          have hz : sizeR s j ≠ 0 := fun h => by have := (hli.2 h).2; rw [hpre] at this; cases this
          refine ⟨_, ?_, j + sz, by omega, rfl, ?_, hsub.updK hid, by simp [h0, h7]⟩
          · omega
          · rw [hp, hbs hz, hd2 hz]
      · have hc' : ((c : Int) = 65533) = False := by simp; omega
        have hz : sizeR s j ≠ 0 := fun h => hc (hli.2 h).1
        (refine Runs.of_step Orc.nothing 300 ?_; simp -implicitDefEqProofs only [BB,seval,effR_some,effD_some,← decide_not,okind,vpre,vpure,intBin,intPre,strBin,strPre,popTo,argSlots,fldV,fldAV,subCells,idxVV,idxAAV,idxSV,sliceV,sliceSV,boundV,szIs,storeOp,storeS,setRowV,eff,extV,buildV,splice,eqSV,fitsL,eqCells,eqCell,minmaxV,capV,binBV,nilCheckV,bytesV,V.cells,V.stays,Orc.nothing,h0,h7,hc'])
        refine ⟨_, ?_, j + sz, by omega, rfl, ?_, hsub.updK hid, by simp [h0, h7]⟩
        · omega
        · rw [hp, hbs hz, hd2 hz]
    · (refine Runs.of_step Orc.nothing 300 ?_; simp -implicitDefEqProofs only [BB,seval,effR_some,effD_some,← decide_not,okind,vpre,vpure,intBin,intPre,strBin,strPre,popTo,argSlots,fldV,fldAV,subCells,idxVV,idxAAV,idxSV,sliceV,sliceSV,boundV,szIs,storeOp,storeS,setRowV,eff,extV,buildV,splice,eqSV,fitsL,eqCells,eqCell,minmaxV,capV,binBV,nilCheckV,bytesV,V.cells,V.stays,Orc.nothing,h0,h7])
      refine RetV.pure hsub ?_
      rw [hp, badI_end hlt]; rfl
end Go.Vc
namespace Go.Vc
open Go.Proofs
def encT (t : Tk) : V := .agg [vI t.kind, .int .i32 t.sign, vI t.n, vI t.at']
def resT : Res → V
  | .ok l => .tup [.sl 4 (l.map encT), vI 0, vI 0]
  | .bad p => .tup [.sl 4 [], vI p, vI 1]
theorem digLen_lt : ∀ {l : List UInt8} {d : Nat}, d ≤ digLen l → (d < digLen l ↔ ∃ b, l[d]? = some b ∧ 48 ≤ b.toNat ∧ b.toNat ≤ 57)
  | [], d, h => by simp [digLen] at h ⊢
  | b :: l, d, h => by
    simp only [digLen] at h ⊢
    split at h
    · rename_i hb
      rw [if_pos hb]
      cases d with
      | zero => simp; exact hb
      | succ d =>
        have := digLen_lt (l := l) (d := d) (by omega)
        simp only [List.getElem?_cons_succ]
        rw [← this]
        omega
    · rename_i hb
      rw [if_neg hb]
      obtain rfl : d = 0 := by omega
      simp only [Nat.lt_irrefl,List.getElem?_cons_zero,false_iff]
      rintro ⟨b', h1, h2⟩
      simp only [Option.some.injEq] at h1
      subst h1
      exact hb h2
theorem dig_in {s : List UInt8} {j d : Nat} (h : d ≤ digLen (s.drop j)) : inB s (j + d) 48 57 = decide (d < digLen (s.drop j)) := by
  rw [Bool.eq_iff_iff, decide_eq_true_eq, digLen_lt h]
  simp only [inB,Bool.and_eq_true,decide_eq_true_eq,List.getElem?_drop]
  unfold byt
  cases hq : s[j + d]? with
  | none => simp
  | some b => have := b.toNat_lt; simp; omega
theorem numR_snoc (l : List UInt8) (b : UInt8) : numR (l ++ [b]) = 10 * numR l + (b.toNat - 48) := by simp [numR, List.foldl_append]
theorem head_digs {s : List UInt8} {j : Nat} (hlt : j < s.length) (h : 0 < digLen (s.drop j)) : (digsAt s j).head? = some s[j] := by
  unfold digsAt
  rw [List.drop_eq_getElem_cons hlt] at h ⊢
  obtain ⟨k, hk⟩ : ∃ k, digLen (s[j] :: s.drop (j + 1)) = k + 1 := ⟨_, (Nat.succ_pred_eq_of_pos h).symm⟩
  rw [hk]; rfl
theorem len_digs {s : List UInt8} {j : Nat} : (digsAt s j).length = digLen (s.drop j) := by
  unfold digsAt
  have := digLen_le (s.drop j)
  simp at this ⊢; omega
theorem numBad_iff {s : List UInt8} {j : Nat} (hlt : j < s.length) (h : 0 < digLen (s.drop j)) :
    numBad (digsAt s j) = (decide (numR (digsAt s j) > 1099511627776) || (decide (byt s j = 48) && decide (digLen (s.drop j) > 1))) := by
  unfold numBad
  rw [head_digs hlt h, len_digs]
  congr 2
  rw [Bool.eq_iff_iff]
  simp only [decide_eq_true_eq,Option.some.injEq]
  rw [← byt_get hlt]
  exact ⟨fun e => by rw [e]; rfl, fun e => UInt8.toNat.inj e⟩
theorem take_digs {s : List UInt8} {j : Nat} : (s.drop j).take (digLen (s.drop j)) = digsAt s j := rfl
theorem dig_get {s : List UInt8} {j : Nat} (d : Nat) (h : d < digLen (s.drop j)) : ∃ b : UInt8, (s.drop j).take (d + 1) = (s.drop j).take d ++ [b] ∧ byt s (j + d) = b.toNat ∧ 48 ≤ b.toNat ∧ b.toNat ≤ 57 := by
  obtain ⟨b, h1, h2, h3⟩ := (digLen_lt (Nat.le_of_lt h)).1 h
  refine ⟨b, ?_, ?_, h2, h3⟩
  · rw [List.take_add_one, h1]; rfl
  · rw [List.getElem?_drop] at h1
    simp [byt, h1]
theorem ofI_end {s : List UInt8} {c : Bool} {i : Nat} (h : ¬ i < s.length) : ofI s c i = .ok [] := by rw [ofI, dif_neg h]
theorem ofI_bad {s : List UInt8} {c : Bool} {i : Nat} (h : i < s.length) (hz : sizeR s i = 0) : ofI s c i = .bad i := by rw [ofI, dif_pos h, dif_pos hz]
theorem ofI_com {s : List UInt8} {i : Nat} (h : i < s.length) (hz : sizeR s i ≠ 0) : ofI s true i = ofI s (decide (byt s i ≠ 10)) (i + sizeR s i) := by
  rw [ofI.eq_def s true i, dif_pos h, dif_neg hz, if_pos rfl]
theorem ofI_hash {s : List UInt8} {i : Nat} (h : i < s.length) (hz : sizeR s i ≠ 0) (hb : byt s i = 35) : ofI s false i = ofI s true (i + 1) := by
  rw [ofI.eq_def s false i, dif_pos h, dif_neg hz, if_neg (by simp), if_pos hb]
theorem ofI_white {s : List UInt8} {i : Nat} (h : i < s.length) (hz : sizeR s i ≠ 0) (hb : byt s i = 32 ∨ byt s i = 9 ∨ byt s i = 10) : ofI s false i = ofI s false (i + 1) := by
  rw [ofI.eq_def s false i, dif_pos h, dif_neg hz, if_neg (by simp), if_neg (by omega), if_pos hb]
theorem ofI_num {s : List UInt8} {i : Nat} (h : i < s.length) (hz : sizeR s i ≠ 0) (hb : 48 ≤ byt s i ∧ byt s i ≤ 57) : ofI s false i = if numBad (digsAt s i) then .bad i
    else (ofI s false (i + digLen (s.drop i))).cons ⟨2, 0, numR (digsAt s i), i⟩ := by
  rw [ofI.eq_def s false i, dif_pos h, dif_neg hz, if_neg (by simp), if_neg (by omega), if_neg (by omega), dif_pos hb]
theorem ofI_sign {s : List UInt8} {i : Nat} (h : i < s.length) (hz : sizeR s i ≠ 0) (hb : ¬ (byt s i = 35 ∨ byt s i = 32 ∨ byt s i = 9 ∨ byt s i = 10 ∨ (48 ≤ byt s i ∧ byt s i ≤ 57))) :
    ofI s false i = (ofI s false (i + sizeR s i)).cons ⟨1, runeR s i (sizeR s i), 0, i⟩ := by
  rw [ofI.eq_def s false i, dif_pos h, dif_neg hz, if_neg (by simp), if_neg (by omega), if_neg (by omega), dif_neg (by omega)]
set_option maxRecDepth 100000 in
theorem rof_c (s : List UInt8) (hs : s.length ≤ 1000000) : PFun Tryz.prog 22 [.str s] (resT (ofI s false 0)) := fun σ => by
  refine Contract.of_runs Tryz.func22 e22 k22 (by simp [c22]) ?_
  refine Runs.mix 12 ?_
  (refine Runs.of_step Orc.nothing 300 ?_; simp -implicitDefEqProofs only [BB,seval,effR_some,effD_some,← decide_not,okind,vpre,vpure,intBin,intPre,strBin,strPre,popTo,argSlots,fldV,fldAV,subCells,idxVV,idxAAV,idxSV,sliceV,sliceSV,boundV,szIs,storeOp,storeS,setRowV,eff,extV,buildV,splice,eqSV,fitsL,eqCells,eqCell,minmaxV,capV,binBV,nilCheckV,bytesV,V.cells,V.stays,Orc.nothing,c22])
  refine Runs.loop (fun m st => ∃ (j : Nat) (c : Bool) (pre : List Tk), j ≤ s.length ∧ m = s.length - j ∧ pre.length ≤ j ∧ ofI s false 0 = (ofI s c j).app pre ∧ SubStore σ st.σ ∧ OutV σ st.σ 44 4 (st.s 5) (pre.map encT) ∧
    st.s 0 = .str s ∧ st.s 6 = vI (if c then 1 else 0) ∧ st.s 7 = vI j) s.length ?_ ?_
  · exact ⟨0, false, [], by omega, by omega, by simp, (Res.app_nil _).symm, SubStore.refl σ, OutV.start, rfl, rfl, rfl⟩
  · rintro m ⟨s', σ'⟩ ⟨j, c, pre, hj, rfl, hpl, hp, hsub, hout, h0, h6, h7⟩
    simp only at h0 h6 h7 hsub hout
    generalize hv5 : s' 5 = v5 at *
    refine Runs.mix 12 ?_
    by_cases hlt : j < s.length
    · have hlt' : ((j : Int) < (s.length : Int)) = True := by simp; omega
      have hle := sizeR_le hlt
      have hx := idx_byt hlt
      have hbl := byt_lt.2 hlt
      (refine Runs.of_step Orc.nothing 300 ?_; simp -implicitDefEqProofs only [BB,seval,effR_some,effD_some,← decide_not,okind,vpre,vpure,intBin,intPre,strBin,strPre,popTo,argSlots,fldV,fldAV,subCells,idxVV,idxAAV,idxSV,sliceV,sliceSV,boundV,szIs,storeOp,storeS,setRowV,eff,extV,buildV,splice,eqSV,fitsL,eqCells,eqCell,minmaxV,capV,binBV,nilCheckV,bytesV,V.cells,V.stays,Orc.nothing,h0,hv5,h6,h7,hlt'])
      refine Runs.pcall rfl rfl rfl (size_c s j (by omega) _) ?_
      by_cases hz : sizeR s j = 0
      · have hz' : ((sizeR s j : Int) = 0) = True := by simp [hz]
        (refine Runs.of_step Orc.nothing 300 ?_; simp -implicitDefEqProofs only [BB,seval,effR_some,effD_some,← decide_not,okind,vpre,vpure,intBin,intPre,strBin,strPre,popTo,argSlots,fldV,fldAV,subCells,idxVV,idxAAV,idxSV,sliceV,sliceSV,boundV,szIs,storeOp,storeS,setRowV,eff,extV,buildV,splice,eqSV,fitsL,eqCells,eqCell,minmaxV,capV,binBV,nilCheckV,bytesV,V.cells,V.stays,Orc.nothing,h0,hv5,h6,h7,hz'])
        refine ⟨_, σ, hsub, Wk.tup (vs' := [.sl 4 [], vI j, vI 1]) ⟨Wk.nils 4, Wk.refl hsub _, Wk.refl hsub _, trivial⟩, ?_, rfl⟩
        rw [hp, ofI_bad hlt hz]; rfl
      · have hz' : ((sizeR s j : Int) = 0) = False := by simp [hz]
        have hin : inR .i64 ((j : Int) + (sizeR s j : Int)) := inR_i64 (by omega) (by omega)
        have hin1 : inR .i64 ((j : Int) + 1) := inR_i64 (by omega) (by omega)
        have hsz1 : byt s j ≤ 127 → sizeR s j = 1 := sizeR_ascii
        cases c
        · simp only [Bool.false_eq_true,if_false] at h6
          by_cases h35 : byt s j = 35
          · have e35 : ((byt s j : Int) = 35) = True := by simp [h35]
            (refine Runs.of_step Orc.nothing 300 ?_; simp -implicitDefEqProofs only [BB,seval,effR_some,effD_some,← decide_not,okind,vpre,vpure,intBin,intPre,strBin,strPre,popTo,argSlots,fldV,fldAV,subCells,idxVV,idxAAV,sliceV,sliceSV,boundV,szIs,storeOp,storeS,setRowV,eff,extV,buildV,splice,eqSV,fitsL,eqCells,eqCell,minmaxV,capV,binBV,nilCheckV,bytesV,V.cells,V.stays,Orc.nothing,h0,hv5,h6,h7,hz',hx,e35,hin1])
            refine ⟨_, ?_, j + 1, true, pre, by omega, rfl, by omega, ?_, hsub, hout, by simp⟩
            · omega
            · rw [hp, ofI_hash hlt hz h35]
          · have e35 : ((byt s j : Int) = 35) = False := by simp; omega
            by_cases hw : byt s j = 32 ∨ byt s j = 9 ∨ byt s j = 10
            · rcases hw with hw | hw | hw
              · have e32 : ((byt s j : Int) = 32) = True := by simp [hw]
                (refine Runs.of_step Orc.nothing 300 ?_; simp -implicitDefEqProofs only [BB,seval,effR_some,effD_some,← decide_not,okind,vpre,vpure,intBin,intPre,strBin,strPre,popTo,argSlots,fldV,fldAV,subCells,idxVV,idxAAV,sliceV,sliceSV,boundV,szIs,storeOp,storeS,setRowV,eff,extV,buildV,splice,eqSV,fitsL,eqCells,eqCell,minmaxV,capV,binBV,nilCheckV,bytesV,V.cells,V.stays,Orc.nothing,h0,hv5,h6,h7,hz',hx,e35,e32,hin1])
                refine ⟨_, ?_, j + 1, false, pre, by omega, rfl, by omega, ?_, hsub, hout, by simp⟩
                · omega
                · rw [hp, ofI_white hlt hz (by omega)]
              · have e32 : ((byt s j : Int) = 32) = False := by simp; omega
                have e9 : ((byt s j : Int) = 9) = True := by simp [hw]
                (refine Runs.of_step Orc.nothing 300 ?_; simp -implicitDefEqProofs only [BB,seval,effR_some,effD_some,← decide_not,okind,vpre,vpure,intBin,intPre,strBin,strPre,popTo,argSlots,fldV,fldAV,subCells,idxVV,idxAAV,sliceV,sliceSV,boundV,szIs,storeOp,storeS,setRowV,eff,extV,buildV,splice,eqSV,fitsL,eqCells,eqCell,minmaxV,capV,binBV,nilCheckV,bytesV,V.cells,V.stays,Orc.nothing,h0,hv5,h6,h7,hz',hx,e35,e32,e9,hin1])
                refine ⟨_, ?_, j + 1, false, pre, by omega, rfl, by omega, ?_, hsub, hout, by simp⟩
                · omega
                · rw [hp, ofI_white hlt hz (by omega)]
              · have e32 : ((byt s j : Int) = 32) = False := by simp; omega
                have e9 : ((byt s j : Int) = 9) = False := by simp; omega
                have e10 : ((byt s j : Int) = 10) = True := by simp [hw]
                (refine Runs.of_step Orc.nothing 300 ?_; simp -implicitDefEqProofs only [BB,seval,effR_some,effD_some,← decide_not,okind,vpre,vpure,intBin,intPre,strBin,strPre,popTo,argSlots,fldV,fldAV,subCells,idxVV,idxAAV,sliceV,sliceSV,boundV,szIs,storeOp,storeS,setRowV,eff,extV,buildV,splice,eqSV,fitsL,eqCells,eqCell,minmaxV,capV,binBV,nilCheckV,bytesV,V.cells,V.stays,Orc.nothing,h0,hv5,h6,h7,hz',hx,e35,e32,e9,e10,hin1])
                refine ⟨_, ?_, j + 1, false, pre, by omega, rfl, by omega, ?_, hsub, hout, by simp⟩
                · omega
                · rw [hp, ofI_white hlt hz (by omega)]
            · have e32 : ((byt s j : Int) = 32) = False := by simp; omega
              have e9 : ((byt s j : Int) = 9) = False := by simp; omega
              have e10 : ((byt s j : Int) = 10) = False := by simp; omega
              (refine Runs.of_step Orc.nothing 300 ?_; simp -implicitDefEqProofs only [BB,seval,effR_some,effD_some,← decide_not,okind,vpre,vpure,intBin,intPre,strBin,strPre,popTo,argSlots,fldV,fldAV,subCells,idxVV,idxAAV,sliceV,sliceSV,boundV,szIs,storeOp,storeS,setRowV,eff,extV,buildV,splice,eqSV,fitsL,eqCells,eqCell,minmaxV,capV,binBV,nilCheckV,bytesV,V.cells,V.stays,Orc.nothing,h0,hv5,h6,h7,hz',hx,e35,e32,e9,e10])
              refine Runs.pcall rfl rfl rfl (in_c s j 48 57 (by omega) _) ?_
              have hiz : inZ s j 48 57 = inB s j 48 57 := inZ_nat s j 48 57
              have hb2 : (pre.length + 1) * 33 ≤ 140737488355328 := by omega
              by_cases hd : 48 ≤ byt s j ∧ byt s j ≤ 57
              · have hib : inZ s j 48 57 = true := by rw [hiz]; simp [inB]; omega
                have hn := ofI_num hlt hz hd
                have hdp := digLen_pos hd.1 hd.2
                have hdl : j + digLen (s.drop j) ≤ s.length := by have := digLen_le (s.drop j); simp at this; omega
                have hnb := numBad_iff hlt hdp
                have htd := take_digs (s := s) (j := j)
                have hdi := fun d => @dig_in s j d
                have hdg := dig_get (s := s) (j := j)
                generalize hD : digLen (s.drop j) = D at *
                (refine Runs.of_step Orc.nothing 300 ?_; simp -implicitDefEqProofs only [BB,seval,effR_some,effD_some,← decide_not,okind,vpre,vpure,intBin,intPre,strBin,strPre,popTo,argSlots,fldV,fldAV,subCells,idxVV,idxAAV,idxSV,sliceV,sliceSV,boundV,szIs,storeOp,storeS,setRowV,eff,extV,buildV,splice,eqSV,fitsL,eqCells,eqCell,minmaxV,capV,binBV,nilCheckV,bytesV,V.cells,V.stays,Orc.nothing,h0,hv5,h6,h7,hib])
                refine Runs.loop (fun m st => ∃ d : Nat, d ≤ D ∧ m = D - d ∧ st.σ = σ' ∧ st.s 0 = .str s ∧ st.s 5 = v5 ∧ st.s 6 = vI 0 ∧ st.s 7 = vI j ∧ st.s 9 = .int .u8 (byt s j) ∧
                  st.s 10 = vI ((min (numR ((s.drop j).take d)) 2199023255552 : Nat) : Int) ∧ st.s 11 = vI ((j + d : Nat) : Int)) D ?_ ?_
                · exact ⟨0, by omega, by omega, rfl, by simp [mix, putO, h0, hv5, h6, h7, numR]⟩
                · rintro m ⟨s2, σ2⟩ ⟨d, hdD, rfl, hσ2, g0, g5, g6, g7, g9, g10, g11⟩
                  simp only at hσ2 g0 g5 g6 g7 g9 g10 g11
                  subst hσ2
                  refine Runs.mix 12 ?_
                  (refine Runs.of_step Orc.nothing 300 ?_; simp -implicitDefEqProofs only [BB,seval,effR_some,effD_some,← decide_not,okind,vpre,vpure,intBin,intPre,strBin,strPre,popTo,argSlots,fldV,fldAV,subCells,idxVV,idxAAV,idxSV,sliceV,sliceSV,boundV,szIs,storeOp,storeS,setRowV,eff,extV,buildV,splice,eqSV,fitsL,eqCells,eqCell,minmaxV,capV,binBV,nilCheckV,bytesV,V.cells,V.stays,Orc.nothing,g0,g11])
                  refine Runs.pcall rfl rfl rfl (in_c s ((j + d : Nat) : Int) 48 57 (by omega) _) ?_
                  have hiz2 : inZ s ((j + d : Nat) : Int) 48 57 = decide (d < D) := by rw [← hdi d hdD]; exact inZ_nat s (j + d) 48 57
                  by_cases hdlt : d < D
                  · obtain ⟨b, t1, t2, t3, t4⟩ := hdg d hdlt
                    have hx2 := idx_byt (byt_some (s := s) (i := j + d) (by omega))
                    have hI : inZ s ((j + d : Nat) : Int) 48 57 = true := by rw [hiz2]; exact decide_eq_true hdlt
                    rw [t2] at hx2
                    have hn2 := numR_snoc ((s.drop j).take d) b
                    rw [← t1] at hn2
                    generalize hN : numR ((s.drop j).take d) = N at *
                    generalize hM : min N 2199023255552 = M at *
                    have hMle : M ≤ 2199023255552 := by omega
                    have r1 : inR .i64 (10 * (M : Int)) := inR_i64 (by omega) (by omega)
                    have r2 : inR .u8 ((b.toNat : Int) - 48) := by unfold inR; rw [IntKind.wrap_u8]; omega
                    have r3 : inR .i64 ((b.toNat : Int) - 48) := inR_i64 (by omega) (by omega)
                    have r4 : inR .i64 (10 * (M : Int) + ((b.toNat : Int) - 48)) := inR_i64 (by omega) (by omega)
                    have r5 : inR .i64 (((j + d : Nat) : Int) + 1) := inR_i64 (by omega) (by omega)
                    (refine Runs.of_step Orc.nothing 300 ?_; simp -implicitDefEqProofs only [BB,seval,effR_some,effD_some,← decide_not,okind,vpre,vpure,intBin,intPre,strBin,strPre,popTo,argSlots,fldV,fldAV,subCells,idxVV,idxAAV,sliceV,sliceSV,boundV,szIs,storeOp,storeS,setRowV,eff,extV,buildV,splice,eqSV,fitsL,eqCells,eqCell,minmaxV,capV,binBV,nilCheckV,bytesV,V.cells,V.stays,Orc.nothing,g0,g5,g6,g7,g9,g10,g11,hI,hx2,r1,r2,r3,r4,r5])
                    refine ⟨_, ?_, d + 1, by omega, rfl, ?_⟩
                    · omega
                    · rw [hn2]
                      simp only [vI,V.int.injEq,true_and]
                      refine ⟨?_, by omega⟩
                      split <;> omega
                  · obtain rfl : d = D := by omega
                    have hI : inZ s ((j + d : Nat) : Int) 48 57 = false := by rw [hiz2]; exact decide_eq_false (by omega)
                    rw [htd] at g10
                    generalize hN : numR (digsAt s j) = N at *
                    have hne : 48 ≤ byt s j := hd.1
                    have hr1 : inR .i64 ((j : Int) + 1) := hin1
                    have hfin : ∀ (k : Nat → V) (b : Bool), True := fun _ _ => trivial
                    by_cases hN1 : N > 1099511627776
                    · have q1 : (((min N 2199023255552 : Nat) : Int) > 1099511627776) = True := by simp; omega
                      (refine Runs.of_step Orc.nothing 300 ?_; simp -implicitDefEqProofs only [BB,seval,effR_some,effD_some,← decide_not,okind,vpre,vpure,intBin,intPre,strBin,strPre,popTo,argSlots,fldV,fldAV,subCells,idxVV,idxAAV,idxSV,sliceV,sliceSV,boundV,szIs,storeOp,storeS,setRowV,eff,extV,buildV,splice,eqSV,fitsL,eqCells,eqCell,minmaxV,capV,binBV,nilCheckV,bytesV,V.cells,V.stays,Orc.nothing,g0,g5,g6,g7,g9,g10,g11,hI,q1,hr1])
                      refine ⟨_, σ, hsub, Wk.tup (vs' := [.sl 4 [], vI j, vI 1]) ⟨Wk.nils 4, Wk.refl hsub _, Wk.refl hsub _, trivial⟩, ?_, rfl⟩
                      rw [hp, hn, hnb, if_pos (by simp; omega)]; rfl
                    · have q1 : (((min N 2199023255552 : Nat) : Int) > 1099511627776) = False := by simp; omega
                      have hmin : min N 2199023255552 = N := by omega
                      by_cases h48 : byt s j = 48
                      · have q2 : ((byt s j : Int) = 48) = True := by simp [h48]
                        by_cases hd1 : d > 1
                        · have q3 : (((j + d : Nat) : Int) > (j : Int) + 1) = True := by simp; omega
                          (refine Runs.of_step Orc.nothing 300 ?_; simp -implicitDefEqProofs only [BB,seval,effR_some,effD_some,← decide_not,okind,vpre,vpure,intBin,intPre,strBin,strPre,popTo,argSlots,fldV,fldAV,subCells,idxVV,idxAAV,idxSV,sliceV,sliceSV,boundV,szIs,storeOp,storeS,setRowV,eff,extV,buildV,splice,eqSV,fitsL,eqCells,eqCell,minmaxV,capV,binBV,nilCheckV,bytesV,V.cells,V.stays,Orc.nothing,g0,g5,g6,g7,g9,g10,g11,hI,q1,q2,q3,hr1])
                          refine ⟨_, σ, hsub, Wk.tup (vs' := [.sl 4 [], vI j, vI 1]) ⟨Wk.nils 4, Wk.refl hsub _, Wk.refl hsub _, trivial⟩, ?_, rfl⟩
                          rw [hp, hn, hnb, if_pos (by simp; omega)]; rfl
                        · have q3 : (((j + d : Nat) : Int) > (j : Int) + 1) = False := by simp; omega
                          (refine Runs.of_step Orc.nothing 300 ?_; simp -implicitDefEqProofs only [BB,seval,← decide_not,okind,vpre,vpure,intBin,intPre,strBin,strPre,popTo,argSlots,fldV,fldAV,subCells,idxVV,idxAAV,idxSV,sliceV,sliceSV,boundV,szIs,storeOp,storeS,setRowV,eff,extV,buildV,splice,eqSV,fitsL,eqCells,eqCell,minmaxV,capV,binBV,nilCheckV,bytesV,V.cells,V.stays,Orc.nothing,g0,g5,g6,g7,g9,g10,g11,hI,q1,q2,q3,hr1])
                          refine effR_new fun id1 σ1 s1 a1 f1 => ?_
                          obtain ⟨idA, hda, hdel⟩ := hout.dst s1
                          have s2 := hsub.trans s1
                          simp -implicitDefEqProofs only [BB,seval,← decide_not,okind,vpre,vpure,intBin,intPre,strBin,strPre,popTo,argSlots,fldV,fldAV,subCells,idxVV,idxAAV,idxSV,sliceV,sliceSV,boundV,szIs,storeOp,storeS,setRowV,eff,extV,buildV,splice,eqSV,fitsL,eqCells,eqCell,minmaxV,capV,binBV,nilCheckV,bytesV,V.cells,V.stays,hda,srcOne a1,List.length_map,hb2,g0,g6,g7,g11]
                          refine effR_put fun id2 σ2 s3 a2 f2 => ?_
                          have s4 := (hdel σ (SubStore.refl _) σ1 s2).trans s3
                          simp -implicitDefEqProofs only [BB,seval,← decide_not,okind,vpre,vpure,intBin,intPre,strBin,strPre,popTo,argSlots,fldV,fldAV,subCells,idxVV,idxAAV,idxSV,sliceV,sliceSV,boundV,szIs,storeOp,storeS,setRowV,eff,extV,buildV,splice,eqSV,fitsL,eqCells,eqCell,minmaxV,capV,binBV,nilCheckV,bytesV,V.cells,V.stays,g0,g6,g7,g11]
                          refine ⟨_, ?_, j + d, false, pre ++ [⟨2, 0, N, j⟩], by omega, rfl, by simp; omega, ?_, s4, ?_, by simp⟩
                          · omega
                          · rw [hp, hn, hnb, if_neg (by simp; omega), Res.app_cons]
                          · exact OutV.new (by simp) (by rw [a2]; simp [encT]; omega) (s2.none f2)
                      · have q2 : ((byt s j : Int) = 48) = False := by simp; omega
                        (refine Runs.of_step Orc.nothing 300 ?_; simp -implicitDefEqProofs only [BB,seval,← decide_not,okind,vpre,vpure,intBin,intPre,strBin,strPre,popTo,argSlots,fldV,fldAV,subCells,idxVV,idxAAV,idxSV,sliceV,sliceSV,boundV,szIs,storeOp,storeS,setRowV,eff,extV,buildV,splice,eqSV,fitsL,eqCells,eqCell,minmaxV,capV,binBV,nilCheckV,bytesV,V.cells,V.stays,Orc.nothing,g0,g5,g6,g7,g9,g10,g11,hI,q1,q2,hr1])
                        refine effR_new fun id1 σ1 s1 a1 f1 => ?_
                        obtain ⟨idA, hda, hdel⟩ := hout.dst s1
                        have s2 := hsub.trans s1
                        simp -implicitDefEqProofs only [BB,seval,← decide_not,okind,vpre,vpure,intBin,intPre,strBin,strPre,popTo,argSlots,fldV,fldAV,subCells,idxVV,idxAAV,idxSV,sliceV,sliceSV,boundV,szIs,storeOp,storeS,setRowV,eff,extV,buildV,splice,eqSV,fitsL,eqCells,eqCell,minmaxV,capV,binBV,nilCheckV,bytesV,V.cells,V.stays,hda,srcOne a1,List.length_map,hb2,g0,g6,g7,g11]
                        refine effR_put fun id2 σ2 s3 a2 f2 => ?_
                        have s4 := (hdel σ (SubStore.refl _) σ1 s2).trans s3
                        simp -implicitDefEqProofs only [BB,seval,← decide_not,okind,vpre,vpure,intBin,intPre,strBin,strPre,popTo,argSlots,fldV,fldAV,subCells,idxVV,idxAAV,idxSV,sliceV,sliceSV,boundV,szIs,storeOp,storeS,setRowV,eff,extV,buildV,splice,eqSV,fitsL,eqCells,eqCell,minmaxV,capV,binBV,nilCheckV,bytesV,V.cells,V.stays,g0,g6,g7,g11]
                        refine ⟨_, ?_, j + d, false, pre ++ [⟨2, 0, N, j⟩], by omega, rfl, by simp; omega, ?_, s4, ?_, by simp⟩
                        · omega
                        · rw [hp, hn, hnb, if_neg (by simp; omega), Res.app_cons]
                        · exact OutV.new (by simp) (by rw [a2]; simp [encT]; omega) (s2.none f2)
              · have hib : inZ s j 48 57 = false := by rw [hiz]; simp [inB]; omega
                (refine Runs.of_step Orc.nothing 300 ?_; simp -implicitDefEqProofs only [BB,seval,effR_some,effD_some,← decide_not,okind,vpre,vpure,intBin,intPre,strBin,strPre,popTo,argSlots,fldV,fldAV,subCells,idxVV,idxAAV,idxSV,sliceV,sliceSV,boundV,szIs,storeOp,storeS,setRowV,eff,extV,buildV,splice,eqSV,fitsL,eqCells,eqCell,minmaxV,capV,binBV,nilCheckV,bytesV,V.cells,V.stays,Orc.nothing,h0,hv5,h6,h7,hib])
                refine Runs.pcall rfl rfl rfl (rune_c s j (sizeR s j) (by omega) rfl hz _) ?_
                (refine Runs.of_step Orc.nothing 300 ?_; simp -implicitDefEqProofs only [BB,seval,← decide_not,okind,vpre,vpure,intBin,intPre,strBin,strPre,popTo,argSlots,fldV,fldAV,subCells,idxVV,idxAAV,idxSV,sliceV,sliceSV,boundV,szIs,storeOp,storeS,setRowV,eff,extV,buildV,splice,eqSV,fitsL,eqCells,eqCell,minmaxV,capV,binBV,nilCheckV,bytesV,V.cells,V.stays,Orc.nothing,h0,hv5,h6,h7])
                refine effR_new fun id1 σ1 s1 a1 f1 => ?_
                obtain ⟨idA, hda, hdel⟩ := hout.dst s1
                have s2 := hsub.trans s1
                simp -implicitDefEqProofs only [BB,seval,← decide_not,okind,vpre,vpure,intBin,intPre,strBin,strPre,popTo,argSlots,fldV,fldAV,subCells,idxVV,idxAAV,idxSV,sliceV,sliceSV,boundV,szIs,storeOp,storeS,setRowV,eff,extV,buildV,splice,eqSV,fitsL,eqCells,eqCell,minmaxV,capV,binBV,nilCheckV,bytesV,V.cells,V.stays,hda,srcOne a1,List.length_map,hb2,h0,h6,h7]
                refine effR_put fun id2 σ2 s3 a2 f2 => ?_
                have s4 := (hdel σ (SubStore.refl _) σ1 s2).trans s3
                simp -implicitDefEqProofs only [BB,seval,← decide_not,okind,vpre,vpure,intBin,intPre,strBin,strPre,popTo,argSlots,fldV,fldAV,subCells,idxVV,idxAAV,idxSV,sliceV,sliceSV,boundV,szIs,storeOp,storeS,setRowV,eff,extV,buildV,splice,eqSV,fitsL,eqCells,eqCell,minmaxV,capV,binBV,nilCheckV,bytesV,V.cells,V.stays,h0,h6,h7,hin]
                refine ⟨_, ?_, j + sizeR s j, false, pre ++ [⟨1, runeR s j (sizeR s j), 0, j⟩], by omega, rfl, by simp; omega, ?_, s4, ?_, by simp⟩
                · omega
                · rw [hp, ofI_sign hlt hz (by omega), Res.app_cons]
                · exact OutV.new (by simp) (by rw [a2]; simp [encT]) (s2.none f2)
        · simp only [if_true] at h6
          by_cases h10 : byt s j = 10
          · have e10 : ((byt s j : Int) = 10) = True := by simp [h10]
            (refine Runs.of_step Orc.nothing 300 ?_; simp -implicitDefEqProofs only [BB,seval,effR_some,effD_some,← decide_not,okind,vpre,vpure,intBin,intPre,strBin,strPre,popTo,argSlots,fldV,fldAV,subCells,idxVV,idxAAV,sliceV,sliceSV,boundV,szIs,storeOp,storeS,setRowV,eff,extV,buildV,splice,eqSV,fitsL,eqCells,eqCell,minmaxV,capV,binBV,nilCheckV,bytesV,V.cells,V.stays,Orc.nothing,h0,hv5,h6,h7,hz',hx,e10,hin])
            refine ⟨_, ?_, j + sizeR s j, false, pre, by omega, rfl, by omega, ?_, hsub, hout, by simp⟩
            · omega
            · rw [hp, ofI_com hlt hz, decide_eq_false (by omega)]
          · have e10 : ((byt s j : Int) = 10) = False := by simp; omega
            (refine Runs.of_step Orc.nothing 300 ?_; simp -implicitDefEqProofs only [BB,seval,effR_some,effD_some,← decide_not,okind,vpre,vpure,intBin,intPre,strBin,strPre,popTo,argSlots,fldV,fldAV,subCells,idxVV,idxAAV,sliceV,sliceSV,boundV,szIs,storeOp,storeS,setRowV,eff,extV,buildV,splice,eqSV,fitsL,eqCells,eqCell,minmaxV,capV,binBV,nilCheckV,bytesV,V.cells,V.stays,Orc.nothing,h0,hv5,h6,h7,hz',hx,e10,hin])
            refine ⟨_, ?_, j + sizeR s j, true, pre, by omega, rfl, by omega, ?_, hsub, hout, by simp⟩
            · omega
            · rw [hp, ofI_com hlt hz, decide_eq_true (by omega)]
    · have hlt' : ((j : Int) < (s.length : Int)) = False := by simp; omega
      (refine Runs.of_step Orc.nothing 300 ?_; simp -implicitDefEqProofs only [BB,seval,effR_some,effD_some,← decide_not,okind,vpre,vpure,intBin,intPre,strBin,strPre,popTo,argSlots,fldV,fldAV,subCells,idxVV,idxAAV,idxSV,sliceV,sliceSV,boundV,szIs,storeOp,storeS,setRowV,eff,extV,buildV,splice,eqSV,fitsL,eqCells,eqCell,minmaxV,capV,binBV,nilCheckV,bytesV,V.cells,V.stays,Orc.nothing,h0,hv5,h6,h7,hlt'])
      refine ⟨_, σ, hsub, Wk.tup (vs' := [.sl 4 (pre.map encT), vI 0, vI 0]) ⟨hout.wk (SubStore.refl σ) hsub, Wk.refl hsub _, Wk.refl hsub _, trivial⟩, ?_, rfl⟩
      rw [hp, ofI_end hlt]
      simp [Res.app, resT]
end Go.Vc
