/- Part 9 of the library of this proof. -/
import Derived.Test.YtnomejmaolodhaaDoorW8
import Derived.Shelf.Small.Strs
import Derived.Shelf.Strconv.Itoa3
import Derived.Shelf.Strconv.Atoi
import Derived.Shelf.Strconv.ErrVarAll
import Derived.Lib.AppendIntMem
import Derived.Shelf.Strings.Prefix
import Derived.Test.YtnomejmaolodhaaDoorProg
import Derived.Calls
set_option linter.all false
namespace Go.Proofs
open Go.Shelf
def Tryd.lays169_ren : Go.Shelf.Ren := ⟨fun | 169 => 35 | n => n, fun | 70 => 65 | 9 => 9 | 0 => 0 | 72 => 68 | 37 => 66 | 127 => 102 | 3 => 3 | 5 => 5 | n => n, fun | n => n⟩
theorem Tryd.lays169 : Go.Proofs.Lays.n169 Tryd.prog Tryd.lays169_ren := {
  mixed := by kernel_rfl
  f169 := Tryd.func35.trans (congrArg some (by kernel_rfl))
  t0 := Tryd.underlying0
  a0 := Tryd.isAgg0
  z0 := Tryd.sizeOf0
  v0 := Tryd.zeroValue0
  t3 := Tryd.underlying3
  a3 := Tryd.isAgg3
  z3 := Tryd.sizeOf3
  v3 := Tryd.zeroValue3
  t9 := Tryd.underlying9
  a9 := Tryd.isAgg9
  z9 := Tryd.sizeOf9
  v9 := Tryd.zeroValue9
  t37 := Tryd.underlying66
  a37 := Tryd.isAgg66
  z37 := Tryd.sizeOf66
  v37 := Tryd.zeroValue66
  t70 := Tryd.underlying65
  a70 := Tryd.isAgg65
  z70 := Tryd.sizeOf65
  v70 := Tryd.zeroValue65
  t72 := Tryd.underlying68
  a72 := Tryd.isAgg68
  z72 := Tryd.sizeOf68
  v72 := Tryd.zeroValue68
  t127 := Tryd.underlying102
  a127 := Tryd.isAgg102
  z127 := Tryd.sizeOf102
  v127 := Tryd.zeroValue102 }
theorem Tryd.Builder_Extra_169 : Builder.Extra Tryd.prog Tryd.lays169_ren := {
  sizeBuilder := by kernel_rfl
  liesBuilder := by kernel_rfl
  t5 := Tryd.underlying5
  a5 := Tryd.isAgg5
  z5 := Tryd.sizeOf5
  v5 := Tryd.zeroValue5
  infoByte := by kernel_rfl
  cellsByte := by kernel_rfl
  sizeByte := by kernel_rfl
  neB5 := by decide }
def Tryd.laysM171_ren : Go.Shelf.Ren := ⟨fun | 171 => 62 | 243 => 71 | 246 => 78 | 283 => 84 | 284 => 85 | 285 => 86 | 286 => 87 | 129 => 90 | 317 => 89 | 318 => 91 | 319 => 92 | 320 => 93 | 337 => 94 | 338 => 95 | n => n, fun | 3 => 3 | 9 => 9 | 2 => 2 | 4 => 4 | 171 => 138 | 0 => 0 | 53 => 139 | 37 => 66 | 5 => 5 | 173 => 142 | 212 => 145 | 51 => 146 | 20 => 20 | 213 => 147 | 46 => 148 | 232 => 151 | 233 => 152 | n => n, fun | 17 => 0 | 18 => 1 | 19 => 2 | n => n⟩
theorem Tryd.laysM171 : Go.Proofs.LaysM.n171 Tryd.prog Tryd.laysM171_ren := {
  mixed := by kernel_rfl
  f129 := Tryd.func90.trans (congrArg some (by kernel_rfl))
  f171 := Tryd.func62.trans (congrArg some (by kernel_rfl))
  f243 := Tryd.func71.trans (congrArg some (by kernel_rfl))
  f246 := Tryd.func78.trans (congrArg some (by kernel_rfl))
  f283 := Tryd.func84.trans (congrArg some (by kernel_rfl))
  f284 := Tryd.func85.trans (congrArg some (by kernel_rfl))
  f285 := Tryd.func86.trans (congrArg some (by kernel_rfl))
  f286 := Tryd.func87.trans (congrArg some (by kernel_rfl))
  f317 := Tryd.func89.trans (congrArg some (by kernel_rfl))
  f318 := Tryd.func91.trans (congrArg some (by kernel_rfl))
  f319 := Tryd.func92.trans (congrArg some (by kernel_rfl))
  f320 := Tryd.func93.trans (congrArg some (by kernel_rfl))
  f337 := Tryd.func94.trans (congrArg some (by kernel_rfl))
  f338 := Tryd.func95.trans (congrArg some (by kernel_rfl))
  t0 := Tryd.underlying0
  a0 := Tryd.isAgg0
  z0 := Tryd.sizeOf0
  v0 := Tryd.zeroValue0
  t2 := Tryd.underlying2
  a2 := Tryd.isAgg2
  z2 := Tryd.sizeOf2
  v2 := Tryd.zeroValue2
  t3 := Tryd.underlying3
  a3 := Tryd.isAgg3
  z3 := Tryd.sizeOf3
  v3 := Tryd.zeroValue3
  t4 := Tryd.underlying4
  a4 := Tryd.isAgg4
  z4 := Tryd.sizeOf4
  v4 := Tryd.zeroValue4
  t5 := Tryd.underlying5
  a5 := Tryd.isAgg5
  z5 := Tryd.sizeOf5
  v5 := Tryd.zeroValue5
  t9 := Tryd.underlying9
  a9 := Tryd.isAgg9
  z9 := Tryd.sizeOf9
  v9 := Tryd.zeroValue9
  t20 := Tryd.underlying20
  a20 := Tryd.isAgg20
  z20 := Tryd.sizeOf20
  v20 := Tryd.zeroValue20
  t37 := Tryd.underlying66
  a37 := Tryd.isAgg66
  z37 := Tryd.sizeOf66
  v37 := Tryd.zeroValue66
  t46 := Tryd.underlying148
  a46 := Tryd.isAgg148
  z46 := Tryd.sizeOf148
  v46 := Tryd.zeroValue148
  t51 := Tryd.underlying146
  a51 := Tryd.isAgg146
  z51 := Tryd.sizeOf146
  v51 := Tryd.zeroValue146
  t53 := Tryd.underlying139
  a53 := Tryd.isAgg139
  z53 := Tryd.sizeOf139
  v53 := Tryd.zeroValue139
  t171 := Tryd.underlying138
  a171 := Tryd.isAgg138
  z171 := Tryd.sizeOf138
  v171 := Tryd.zeroValue138
  t173 := Tryd.underlying142
  a173 := Tryd.isAgg142
  z173 := Tryd.sizeOf142
  v173 := Tryd.zeroValue142
  t212 := Tryd.underlying145
  a212 := Tryd.isAgg145
  z212 := Tryd.sizeOf145
  v212 := Tryd.zeroValue145
  t213 := Tryd.underlying147
  a213 := Tryd.isAgg147
  z213 := Tryd.sizeOf147
  t232 := Tryd.underlying151
  a232 := Tryd.isAgg151
  z232 := Tryd.sizeOf151
  v232 := Tryd.zeroValue151
  t233 := Tryd.underlying152
  a233 := Tryd.isAgg152
  z233 := Tryd.sizeOf152
  v233 := Tryd.zeroValue152
  g17 := by kernel_rfl
  g18 := by kernel_rfl
  g19 := by kernel_rfl
  i0 := by kernel_rfl
  i2 := by kernel_rfl
  i3 := by kernel_rfl
  i4 := by kernel_rfl
  i5 := by kernel_rfl
  i9 := by kernel_rfl
  i20 := by kernel_rfl
  i37 := by kernel_rfl
  i46 := by kernel_rfl
  i51 := by kernel_rfl
  i53 := by kernel_rfl
  i171 := by kernel_rfl
  i173 := by kernel_rfl
  i212 := by kernel_rfl
  i232 := by kernel_rfl
  i233 := by kernel_rfl
  m17 := by kernel_rfl
  m18 := by kernel_rfl
  m19 := by kernel_rfl }
end Go.Proofs
namespace Go.Vc
def byt (s : List UInt8) (i : Nat) : Nat := match s[i]? with
  | some b => b.toNat
  | none => 256
theorem byt_lt {s : List UInt8} {i : Nat} : byt s i < 256 ↔ i < s.length := by
  unfold byt
  constructor
  · intro h
    split at h
    · rename_i b hb; exact (List.getElem?_eq_some_iff.1 hb).1
    · omega
  · intro h
    rw [List.getElem?_eq_getElem h]
    exact (s[i]).toNat_lt
def inB (s : List UInt8) (i a b : Nat) : Bool := decide (byt s i < 256) && (decide (a ≤ byt s i) && decide (byt s i ≤ b))
def moreB (s : List UInt8) (i : Nat) : Nat → Bool
  | 0 => true
  | n + 1 => inB s i 128 191 && moreB s (i + 1) n
def sizeR (s : List UInt8) (i : Nat) : Nat :=
  if inB s i 0 127 then 1
  else if inB s i 194 223 && moreB s (i + 1) 1 then 2
  else if (inB s i 224 224 && inB s (i + 1) 160 191 && moreB s (i + 2) 1) || (inB s i 225 236 && moreB s (i + 1) 2) || (inB s i 237 237 && inB s (i + 1) 128 159 && moreB s (i + 2) 1) || (inB s i 238 239 && moreB s (i + 1) 2) then 3
  else if (inB s i 240 240 && inB s (i + 1) 144 191 && moreB s (i + 2) 2) || (inB s i 241 243 && moreB s (i + 1) 3) || (inB s i 244 244 && inB s (i + 1) 128 143 && moreB s (i + 2) 2) then 4
  else 0
def runeR (s : List UInt8) (i : Nat) : Nat → Nat
  | 1 => byt s i
  | 2 => 64 * (byt s i - 192) + byt s (i + 1) - 128
  | 3 => 64 * (64 * (byt s i - 224) + byt s (i + 1) - 128) + byt s (i + 2) - 128
  | 4 => 64 * (64 * (64 * (byt s i - 240) + byt s (i + 1) - 128) + byt s (i + 2) - 128) + byt s (i + 3) - 128
  | _ => 0
end Go.Vc
namespace Go.Vc
open Go.Proofs
def Orc.one {P : Program} (O : Orc P) (f0 : FuncId) (g : List V → Option V) (h : ∀ args v, g args = some v → PFun P f0 args v) : Orc P where
  get f args σ := if f = f0 then g args else O.get f args σ
  up f args σ σ' v hs hv := by
    split at hv
    · rename_i hf; rw [if_pos hf]; exact hv
    · rename_i hf; rw [if_neg hf]; exact O.up f args σ σ' v hs hv
  ok f args σ v hv := by
    split at hv
    · rename_i hf; subst hf; exact h args v hv σ
    · exact O.ok f args σ v hv
end Go.Vc
namespace Go.Vc
theorem byt_some {s : List UInt8} {i : Nat} (h : byt s i ≤ 255) : i < s.length := byt_lt.1 (by omega)
def digLen : List UInt8 → Nat
  | [] => 0
  | b :: l => if 48 ≤ b.toNat ∧ b.toNat ≤ 57 then digLen l + 1 else 0
def numR (l : List UInt8) : Nat := l.foldl (fun n b => 10 * n + (b.toNat - 48)) 0
structure Tk where
  kind : Int
  sign : Int
  n : Int
  at' : Int
  deriving DecidableEq
inductive Res where
  | ok (l : List Tk)
  | bad (i : Nat)
def Res.cons (t : Tk) : Res → Res
  | .ok l => .ok (t :: l)
  | .bad i => .bad i
def Res.app (p : List Tk) : Res → Res
  | .ok l => .ok (p ++ l)
  | .bad i => .bad i
theorem Res.app_nil (r : Res) : r.app [] = r := by cases r <;> rfl
def digsAt (s : List UInt8) (i : Nat) : List UInt8 := (s.drop i).take (digLen (s.drop i))
def numBad (l : List UInt8) : Bool := decide (numR l > 1099511627776) || (decide (l.head? = some 48) && decide (l.length > 1))
theorem digLen_pos {s : List UInt8} {i : Nat} (h1 : 48 ≤ byt s i) (h2 : byt s i ≤ 57) : 0 < digLen (s.drop i) := by
  have hl := byt_some (s := s) (i := i) (by omega)
  rw [List.drop_eq_getElem_cons hl, digLen]
  have : byt s i = (s[i]).toNat := by simp [byt, hl]
  rw [if_pos (by omega)]
  omega
def ofI (s : List UInt8) (c : Bool) (i : Nat) : Res :=
  if h : i < s.length then
    if hz : sizeR s i = 0 then .bad i
    else if c then ofI s (decide (byt s i ≠ 10)) (i + sizeR s i)
    else if byt s i = 35 then ofI s true (i + 1)
    else if byt s i = 32 ∨ byt s i = 9 ∨ byt s i = 10 then ofI s false (i + 1)
    else if hd : 48 ≤ byt s i ∧ byt s i ≤ 57 then
      if numBad (digsAt s i) then .bad i
      else (ofI s false (i + digLen (s.drop i))).cons ⟨2, 0, numR (digsAt s i), i⟩
    else (ofI s false (i + sizeR s i)).cons ⟨1, runeR s i (sizeR s i), 0, i⟩
  else .ok []
termination_by s.length - i
decreasing_by
  all_goals (try have := digLen_pos hd.1 hd.2)
  all_goals omega
end Go.Vc
namespace Go.Vc
open Go.Proofs
def g19 : List V → Option V
  | [.str s, .int .i64 i] => if 0 ≤ i ∧ i ≤ 100000000 then some (vI (sizeR s i.toNat)) else none
  | _ => none
end Go.Vc
