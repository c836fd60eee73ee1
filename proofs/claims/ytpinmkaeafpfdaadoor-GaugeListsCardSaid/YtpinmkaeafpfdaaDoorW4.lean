/- Part 4 of the library of this proof. -/
import Derived.Test.YtpinmkaeafpfdaaDoorW3
import Derived.Shelf.Small.Strs
import Derived.Shelf.Strings.Count
import Derived.Shelf.Strconv.Itoa3
import Derived.Shelf.Strconv.Atoi
import Derived.Shelf.Strconv.ErrVarAll
import Derived.Lib.AppendIntMem
import Derived.Lib.ItoaLen
set_option linter.all false
namespace Go.Proofs
open Go.Shelf
def Tryd.lays217_ren : Go.Shelf.Ren := ⟨fun | 217 => 53 | 266 => 70 | n => n, fun | 9 => 9 | 5 => 5 | 3 => 3 | n => n, fun | n => n⟩
theorem Tryd.lays217 : Go.Proofs.Lays.n217 Tryd.prog Tryd.lays217_ren := {
  mixed := by kernel_rfl
  f217 := Tryd.func53.trans (congrArg some (by kernel_rfl))
  f266 := Tryd.func70.trans (congrArg some (by kernel_rfl))
  t3 := Tryd.underlying3
  a3 := Tryd.isAgg3
  z3 := Tryd.sizeOf3
  v3 := Tryd.zeroValue3
  t5 := Tryd.underlying5
  a5 := Tryd.isAgg5
  z5 := Tryd.sizeOf5
  v5 := Tryd.zeroValue5
  t9 := Tryd.underlying9
  a9 := Tryd.isAgg9
  z9 := Tryd.sizeOf9
  v9 := Tryd.zeroValue9 }
def Tryd.lays138_ren : Go.Shelf.Ren := ⟨fun | 138 => 58 | 195 => 72 | 218 => 74 | 143 => 59 | 219 => 45 | 217 => 53 | 225 => 54 | 224 => 55 | 267 => 56 | 266 => 70 | 314 => 71 | n => n, fun | 9 => 9 | 3 => 3 | 4 => 4 | 5 => 5 | 0 => 0 | 46 => 98 | 146 => 111 | 51 => 108 | n => n, fun | 1 => 0 | n => n⟩
theorem Tryd.lays138 : Go.Proofs.Lays.n138 Tryd.prog Tryd.lays138_ren := {
  mixed := by kernel_rfl
  f138 := Tryd.func58.trans (congrArg some (by kernel_rfl))
  f143 := Tryd.func59.trans (congrArg some (by kernel_rfl))
  f195 := Tryd.func72.trans (congrArg some (by kernel_rfl))
  f217 := Tryd.func53.trans (congrArg some (by kernel_rfl))
  f218 := Tryd.func74.trans (congrArg some (by kernel_rfl))
  f219 := Tryd.func45.trans (congrArg some (by kernel_rfl))
  f224 := Tryd.func55.trans (congrArg some (by kernel_rfl))
  f225 := Tryd.func54.trans (congrArg some (by kernel_rfl))
  f266 := Tryd.func70.trans (congrArg some (by kernel_rfl))
  f267 := Tryd.func56.trans (congrArg some (by kernel_rfl))
  f314 := Tryd.func71.trans (congrArg some (by kernel_rfl))
  t0 := Tryd.underlying0
  a0 := Tryd.isAgg0
  z0 := Tryd.sizeOf0
  v0 := Tryd.zeroValue0
  t3 := Tryd.underlying3
  a3 := Tryd.isAgg3
  z3 := Tryd.sizeOf3
  v3 := Tryd.zeroValue3
  t4 := Tryd.underlying4
  a4 := Tryd.isAgg4
  z4 := Tryd.sizeOf4
  v4 := Tryd.zeroValue4
  t5 := Tryd.underlying5
  a5 := Tryd.isAgg5
  z5 := Tryd.sizeOf5
  v5 := Tryd.zeroValue5
  t9 := Tryd.underlying9
  a9 := Tryd.isAgg9
  z9 := Tryd.sizeOf9
  v9 := Tryd.zeroValue9
  t46 := Tryd.underlying98
  a46 := Tryd.isAgg98
  z46 := Tryd.sizeOf98
  v46 := Tryd.zeroValue98
  t51 := Tryd.underlying108
  a51 := Tryd.isAgg108
  z51 := Tryd.sizeOf108
  v51 := Tryd.zeroValue108
  t146 := Tryd.underlying111
  a146 := Tryd.isAgg111
  z146 := Tryd.sizeOf111
  v146 := Tryd.zeroValue111
  g1 := by kernel_rfl }
end Go.Proofs
namespace Go.Vc
open Go.Proofs Go.RowKit
abbrev vI (n : Int) : V := .int .i64 n
theorem Sat.below {w0 w w' : World} {ow0 : Nat → Prop} {μ : Mu} {σ : Store} (h : Sat w0 ow0 μ σ w) (hb : Below w.heap.size w w') : Sat w0 ow0 μ σ w' := by
  have hk : Keeps (Owned μ σ) (Owned μ σ) w w' := fun b hlt hn => ⟨hn, hb.block b hlt⟩
  refine ⟨Nat.le_trans h.size hb.size, hb.os.trans h.os, hb.tape.trans h.tape, hb.output.trans h.output, fun b hlt hn => (hb.block b (Nat.lt_of_lt_of_le hlt h.size)).trans (h.same b hlt hn), h.fin, h.inj,
    fun id ob ho => ?_, h.fresh, h.glob⟩
  exact (h.obj id ob ho).mono (MuLe.refl μ) hk hb.size fun b sz cap hp => hb.block b (Owned.lt h ⟨id, ob, sz, cap, ho, hp⟩)
theorem PFun.lib {P : Program} {f : FuncId} {args : List V} {v : V} {vals : List Value} {x : Value} (hcl : callable P f = true) (hargs : ∀ μ ow w l, RepAll μ ow w args l → l = vals)
    (h : ∀ w, Calls P f vals.toArray w fun e w' => e = .returned x ∧ Below w.heap.size w w') (hx : ∀ μ ow w, Rep μ ow w v x) : PFun P f args v := by
  intro σ
  refine ⟨hcl, fun μ w l hs hr => ?_⟩
  obtain rfl := hargs _ _ _ _ hr
  refine (h w).mono ?_
  rintro e w' ⟨rfl, hb⟩
  exact ⟨v, σ, μ, x, rfl, ⟨rfl, rfl⟩, MuLe.refl μ, hs.below hb, hx _ _ _⟩
theorem indexByte_c (s : List UInt8) (c : UInt8) : PFun Tryd.prog 53 [.str s, .int .u8 c.toNat] (vI (Lib.indexByte s c)) := by
  refine PFun.lib (vals := [.string ⟨s.toArray⟩, .int .u8 c.toNat]) (x := .int .i64 (Lib.indexByte s c)) (by kernel_rfl) (fun μ ow w l h => ?_) (fun w => ?_) (fun _ _ _ => by simp [Rep])
  · simpa [RepAll, Rep] using h
  · refine (Any.stringslite_IndexByte Tryd.lays217 ⟨s.toArray⟩ c.toNat w).mono ?_
    rintro e w' ⟨rfl, rfl⟩
    refine ⟨?_, Below.refl _ _⟩
    simp
theorem count_c (s : List UInt8) (c : UInt8) : PFun Tryd.prog 58 [.str s, .str [c]] (vI (Lib.countByte s c)) := by
  refine PFun.lib (vals := [.string ⟨s.toArray⟩, .string ⟨#[c]⟩]) (x := .int .i64 (Lib.countByte s c)) (by kernel_rfl) (fun μ ow w l h => ?_) (fun w => ?_) (fun _ _ _ => by simp [Rep])
  · simpa [RepAll, Rep] using h
  · refine (Any.strings_Count_one Tryd.lays138 ⟨s.toArray⟩ c w).mono ?_
    rintro e w' ⟨rfl, rfl⟩
    exact ⟨rfl, Below.refl _ _⟩
def clampI (n : Int) : Int := max (-1099511627776) (min n 1099511627776)
theorem clamp_c (n : Int) : PFun Tryd.prog 34 [vI n] (vI (clampI n)) := fun σ => by
  refine Contract.of_runs Tryd.func34 e34 k34 (by simp [c34]) ?_
  (refine Runs.of_step Orc.nothing 300 ?_; simp -implicitDefEqProofs only [BB, effR_some, effD_some, Int.reduceEq, Int.reduceNe, Int.reduceLT, Int.reduceLE, Int.reduceGT, Int.reduceGE, Nat.reduceEqDiff, Nat.reduceAdd, Nat.reduceMul, Nat.reduceLeDiff, Nat.reduceSub, Nat.reduceLT, Nat.reduceBEq, ↓reduceIte, reduceCtorEq, ← decide_not, okind, vpre, vpure, intBin, intPre, strBin, strPre, popTo, argSlots, fldV, fldAV, subCells, idxVV, idxAAV, idxSV, sliceV, sliceSV, boundV, szIs, storeOp, storeS, setRowV, eff, extV, buildV, splice, eqSV, fitsL, eqCells, eqCell, minmaxV, capV, binBV, nilCheckV, bytesV, V.cells, V.stays, Orc.nothing, c34])
  refine RetV.same ?_
  simp only [vI, V.int.injEq, true_and, clampI]
  repeat' split
  all_goals omega
def addI (l : List Int) : Int := l.foldl (fun s n => clampI (s + clampI n)) 0
theorem clamp_range (n : Int) : -1099511627776 ≤ clampI n ∧ clampI n ≤ 1099511627776 := by unfold clampI; omega
def encI (l : List Int) : V := .sl 1 (l.map vI)
theorem len_encI (l : List Int) : lenV false (encI l) = some (vI l.length) := by simp [encI, lenV]
theorem idx_encI {σ : Store} {l : List Int} {i : Nat} (h : i < l.length) : idxAV σ 1 (encI l) (vI i) = some (.rp (vI l[i])) := by
  unfold encI idxAV
  simp [h]
theorem add_c (l : List Int) (hl : l.length ≤ 1000000000) : PFun Tryd.prog 30 [encI l] (vI (addI l)) := fun σ => by
  refine Contract.of_runs Tryd.func30 e30 k30 (by simp [c30]) ?_
  refine Runs.mix 9 ?_
  (refine Runs.of_step Orc.nothing 300 ?_; simp -implicitDefEqProofs only [BB, effR_some, effD_some, Int.reduceEq, Int.reduceNe, Int.reduceLT, Int.reduceLE, Int.reduceGT, Int.reduceGE, Nat.reduceEqDiff, Nat.reduceAdd, Nat.reduceMul, Nat.reduceLeDiff, Nat.reduceSub, Nat.reduceLT, Nat.reduceBEq, ↓reduceIte, reduceCtorEq, ← decide_not, okind, vpre, vpure, intBin, intPre, strBin, strPre, popTo, argSlots, fldV, fldAV, subCells, idxVV, idxAAV, idxSV, sliceV, sliceSV, boundV, szIs, storeOp, storeS, setRowV, eff, extV, buildV, splice, eqSV, fitsL, eqCells, eqCell, minmaxV, capV, binBV, nilCheckV, bytesV, V.cells, V.stays, Orc.nothing, c30, len_encI])
  refine Runs.loop (fun m st => ∃ i : Nat, i ≤ l.length ∧ m = l.length - i ∧ st.σ = σ ∧ st.s 6 = encI l ∧ st.s 7 = vI l.length ∧ st.s 8 = vI i ∧ st.s 3 = vI (addI (l.take i))) l.length ?_ ?_
  · exact ⟨0, by omega, by omega, rfl, rfl, rfl, rfl, by simp [addI, mix, putO]⟩
  · rintro m ⟨s', σ'⟩ ⟨i, hi, rfl, hσ, h6, h7, h8, h3⟩
    simp only at hσ h6 h7 h8 h3
    subst hσ
    refine Runs.mix 9 ?_
    by_cases hlt : i < l.length
    · have hlt' : ((i : Int) < (l.length : Int)) = True := by simp; omega
      have hidx := idx_encI (σ := σ') hlt
      have hin : inR .i64 ((i : Int) + 1) := inR_i64 (by omega) (by omega)
      have htk : addI (l.take (i + 1)) = clampI (addI (l.take i) + clampI l[i]) := by rw [addI, List.take_succ_eq_append_getElem hlt, List.foldl_append]; rfl
      have hr : -1099511627776 ≤ addI (l.take i) ∧ addI (l.take i) ≤ 1099511627776 := by
        cases i with
        | zero => simp [addI]
        | succ i =>
          have : i < l.length := by omega
          have e : addI (l.take (i + 1)) = clampI (addI (l.take i) + clampI l[i]) := by rw [addI, List.take_succ_eq_append_getElem this, List.foldl_append]; rfl
          rw [e]; exact clamp_range _
      have hr2 := clamp_range l[i]
      generalize l[i] = x at *
      generalize addI (l.take i) = S at *
      have r1 : inR .i64 (S + clampI x) := inR_i64 (by omega) (by omega)
      (refine Runs.of_step Orc.nothing 300 ?_; simp -implicitDefEqProofs only [BB, effR_some, effD_some, Int.reduceEq, Int.reduceNe, Int.reduceLT, Int.reduceLE, Int.reduceGT, Int.reduceGE, Nat.reduceEqDiff, Nat.reduceAdd, Nat.reduceMul, Nat.reduceLeDiff, Nat.reduceSub, Nat.reduceLT, Nat.reduceBEq, ↓reduceIte, reduceCtorEq, ← decide_not, okind, vpre, vpure, intBin, intPre, strBin, strPre, popTo, argSlots, fldV, fldAV, subCells, idxVV, idxAAV, idxSV, sliceV, sliceSV, boundV, szIs, storeOp, storeS, setRowV, eff, extV, buildV, splice, eqSV, fitsL, eqCells, eqCell, minmaxV, capV, binBV, nilCheckV, bytesV, V.cells, V.stays, Orc.nothing, h6, h7, h8, h3, hlt', hidx])
      refine Runs.pcall rfl rfl rfl (clamp_c x _) ?_
      (refine Runs.of_step Orc.nothing 300 ?_; simp -implicitDefEqProofs only [BB, effR_some, effD_some, Int.reduceEq, Int.reduceNe, Int.reduceLT, Int.reduceLE, Int.reduceGT, Int.reduceGE, Nat.reduceEqDiff, Nat.reduceAdd, Nat.reduceMul, Nat.reduceLeDiff, Nat.reduceSub, Nat.reduceLT, Nat.reduceBEq, ↓reduceIte, reduceCtorEq, ← decide_not, okind, vpre, vpure, intBin, intPre, strBin, strPre, popTo, argSlots, fldV, fldAV, subCells, idxVV, idxAAV, idxSV, sliceV, sliceSV, boundV, szIs, storeOp, storeS, setRowV, eff, extV, buildV, splice, eqSV, fitsL, eqCells, eqCell, minmaxV, capV, binBV, nilCheckV, bytesV, V.cells, V.stays, Orc.nothing, h6, h7, h8, h3, r1])
      refine Runs.pcall rfl rfl rfl (clamp_c (S + clampI x) _) ?_
      (refine Runs.of_step Orc.nothing 300 ?_; simp -implicitDefEqProofs only [BB, effR_some, effD_some, Int.reduceEq, Int.reduceNe, Int.reduceLT, Int.reduceLE, Int.reduceGT, Int.reduceGE, Nat.reduceEqDiff, Nat.reduceAdd, Nat.reduceMul, Nat.reduceLeDiff, Nat.reduceSub, Nat.reduceLT, Nat.reduceBEq, ↓reduceIte, reduceCtorEq, ← decide_not, okind, vpre, vpure, intBin, intPre, strBin, strPre, popTo, argSlots, fldV, fldAV, subCells, idxVV, idxAAV, idxSV, sliceV, sliceSV, boundV, szIs, storeOp, storeS, setRowV, eff, extV, buildV, splice, eqSV, fitsL, eqCells, eqCell, minmaxV, capV, binBV, nilCheckV, bytesV, V.cells, V.stays, Orc.nothing, h6, h7, h8, h3, hin])
      exact ⟨_, by omega, i + 1, by omega, rfl, by simp [h6, h7, htk]⟩
    · have hlt' : ((i : Int) < (l.length : Int)) = False := by simp; omega
      (refine Runs.of_step Orc.nothing 300 ?_; simp -implicitDefEqProofs only [BB, effR_some, effD_some, Int.reduceEq, Int.reduceNe, Int.reduceLT, Int.reduceLE, Int.reduceGT, Int.reduceGE, Nat.reduceEqDiff, Nat.reduceAdd, Nat.reduceMul, Nat.reduceLeDiff, Nat.reduceSub, Nat.reduceLT, Nat.reduceBEq, ↓reduceIte, reduceCtorEq, ← decide_not, okind, vpre, vpure, intBin, intPre, strBin, strPre, popTo, argSlots, fldV, fldAV, subCells, idxVV, idxAAV, idxSV, sliceV, sliceSV, boundV, szIs, storeOp, storeS, setRowV, eff, extV, buildV, splice, eqSV, fitsL, eqCells, eqCell, minmaxV, capV, binBV, nilCheckV, bytesV, V.cells, V.stays, Orc.nothing, h6, h7, h8, h3, hlt'])
      exact RetV.same (by rw [List.take_of_length_le (by omega)])
theorem sub_c (a b : Int) : PFun Tryd.prog 31 [vI a, vI b] (vI (clampI (clampI a - clampI b))) := fun σ => by
  refine Contract.of_runs Tryd.func31 e31 k31 (by simp [c31]) ?_
  refine Runs.mix 5 ?_
  have h1 := clamp_range a
  have h2 := clamp_range b
  have r1 : inR .i64 (clampI a - clampI b) := inR_i64 (by omega) (by omega)
  (refine Runs.of_step Orc.nothing 300 ?_; simp -implicitDefEqProofs only [BB, effR_some, effD_some, Int.reduceEq, Int.reduceNe, Int.reduceLT, Int.reduceLE, Int.reduceGT, Int.reduceGE, Nat.reduceEqDiff, Nat.reduceAdd, Nat.reduceMul, Nat.reduceLeDiff, Nat.reduceSub, Nat.reduceLT, Nat.reduceBEq, ↓reduceIte, reduceCtorEq, ← decide_not, okind, vpre, vpure, intBin, intPre, strBin, strPre, popTo, argSlots, fldV, fldAV, subCells, idxVV, idxAAV, idxSV, sliceV, sliceSV, boundV, szIs, storeOp, storeS, setRowV, eff, extV, buildV, splice, eqSV, fitsL, eqCells, eqCell, minmaxV, capV, binBV, nilCheckV, bytesV, V.cells, V.stays, Orc.nothing, c31])
  refine Runs.pcall rfl rfl rfl (clamp_c a _) ?_
  (refine Runs.of_step Orc.nothing 300 ?_; simp -implicitDefEqProofs only [BB, effR_some, effD_some, Int.reduceEq, Int.reduceNe, Int.reduceLT, Int.reduceLE, Int.reduceGT, Int.reduceGE, Nat.reduceEqDiff, Nat.reduceAdd, Nat.reduceMul, Nat.reduceLeDiff, Nat.reduceSub, Nat.reduceLT, Nat.reduceBEq, ↓reduceIte, reduceCtorEq, ← decide_not, okind, vpre, vpure, intBin, intPre, strBin, strPre, popTo, argSlots, fldV, fldAV, subCells, idxVV, idxAAV, idxSV, sliceV, sliceSV, boundV, szIs, storeOp, storeS, setRowV, eff, extV, buildV, splice, eqSV, fitsL, eqCells, eqCell, minmaxV, capV, binBV, nilCheckV, bytesV, V.cells, V.stays, Orc.nothing])
  refine Runs.pcall rfl rfl rfl (clamp_c b _) ?_
  (refine Runs.of_step Orc.nothing 300 ?_; simp -implicitDefEqProofs only [BB, effR_some, effD_some, Int.reduceEq, Int.reduceNe, Int.reduceLT, Int.reduceLE, Int.reduceGT, Int.reduceGE, Nat.reduceEqDiff, Nat.reduceAdd, Nat.reduceMul, Nat.reduceLeDiff, Nat.reduceSub, Nat.reduceLT, Nat.reduceBEq, ↓reduceIte, reduceCtorEq, ← decide_not, okind, vpre, vpure, intBin, intPre, strBin, strPre, popTo, argSlots, fldV, fldAV, subCells, idxVV, idxAAV, idxSV, sliceV, sliceSV, boundV, szIs, storeOp, storeS, setRowV, eff, extV, buildV, splice, eqSV, fitsL, eqCells, eqCell, minmaxV, capV, binBV, nilCheckV, bytesV, V.cells, V.stays, Orc.nothing, r1])
  refine Runs.pcall rfl rfl rfl (clamp_c _ _) ?_
  (refine Runs.of_step Orc.nothing 300 ?_; simp -implicitDefEqProofs only [BB, effR_some, effD_some, Int.reduceEq, Int.reduceNe, Int.reduceLT, Int.reduceLE, Int.reduceGT, Int.reduceGE, Nat.reduceEqDiff, Nat.reduceAdd, Nat.reduceMul, Nat.reduceLeDiff, Nat.reduceSub, Nat.reduceLT, Nat.reduceBEq, ↓reduceIte, reduceCtorEq, ← decide_not, okind, vpre, vpure, intBin, intPre, strBin, strPre, popTo, argSlots, fldV, fldAV, subCells, idxVV, idxAAV, idxSV, sliceV, sliceSV, boundV, szIs, storeOp, storeS, setRowV, eff, extV, buildV, splice, eqSV, fitsL, eqCells, eqCell, minmaxV, capV, binBV, nilCheckV, bytesV, V.cells, V.stays, Orc.nothing])
  exact RetV.same rfl
end Go.Vc
namespace Go.Vc
open Go.Proofs
def splitL (c : UInt8) : List UInt8 → List (List UInt8)
  | [] => [[]]
  | b :: l => if b = c then [] :: splitL c l else match splitL c l with
      | p :: ps => (b :: p) :: ps
      | [] => [[b]]
theorem splitL_ne (c : UInt8) : ∀ l, splitL c l ≠ []
  | [] => by simp [splitL]
  | b :: l => by
    simp only [splitL]
    split
    · simp
    · split <;> simp
theorem splitL_len (c : UInt8) : ∀ l, (splitL c l).length = l.count c + 1
  | [] => by simp [splitL]
  | b :: l => by
    have ih := splitL_len c l
    simp only [splitL]
    by_cases h : b = c
    · subst h; rw [if_pos rfl]; simp [ih]
    · rw [if_neg h, List.count_cons_of_ne h]
      cases hs : splitL c l with
      | nil => exact absurd hs (splitL_ne c l)
      | cons p ps => rw [hs] at ih; simpa using ih
theorem idx_cases (c : UInt8) : ∀ l : List UInt8, (Lib.indexByte l c = -1 ∧ splitL c l = [l]) ∨ ∃ k : Nat, Lib.indexByte l c = k ∧ k < l.length ∧ splitL c l = l.take k :: splitL c (l.drop (k + 1))
  | [] => .inl ⟨rfl, rfl⟩
  | b :: l => by
    simp only [Lib.indexByte, splitL]
    by_cases h : b = c
    · subst h
      exact .inr ⟨0, by simp, by simp, by simp⟩
    · have hb : (b == c) = false := by simpa using h
      rw [if_neg h]
      rcases idx_cases c l with ⟨h1, h2⟩ | ⟨k, h1, h2, h3⟩
      · left
        rw [h1, h2]
        exact ⟨by simp [hb], rfl⟩
      · right
        refine ⟨k + 1, ?_, by simp; omega, ?_⟩
        · rw [h1]
          have : ((k : Int) == -1) = false := by rw [beq_eq_false_iff_ne]; omega
          simp [hb, this]
        · rw [h3]; rfl
theorem index45_c (s : List UInt8) (c : UInt8) : PFun Tryd.prog 45 [.str s, .str [c]] (vI (Lib.indexByte s c)) := fun σ => by
  refine Contract.of_runs Tryd.func45 e45 k45 (by simp [c45]) ?_
  refine Runs.mix 14 ?_
  have hx : idxSV (.str [c]) (.int .i64 0) = some (.int .u8 c.toNat) := rfl
  by_cases h : s = [c]
  · subst h
    have q : ([c] = [c]) = True := by simp
    (refine Runs.of_step Orc.nothing 300 ?_; simp -implicitDefEqProofs only [BB, effR_some, effD_some, Int.reduceEq, Int.reduceNe, Int.reduceLT, Int.reduceLE, Int.reduceGT, Int.reduceGE, Nat.reduceEqDiff, Nat.reduceAdd, Nat.reduceMul, Nat.reduceLeDiff, Nat.reduceSub, Nat.reduceLT, Nat.reduceBEq, ↓reduceIte, reduceCtorEq, ← decide_not, okind, vpre, vpure, intBin, intPre, strBin, strPre, popTo, argSlots, fldV, fldAV, subCells, idxVV, idxAAV, idxSV, sliceV, sliceSV, boundV, szIs, storeOp, storeS, setRowV, eff, extV, buildV, splice, eqSV, fitsL, eqCells, eqCell, minmaxV, capV, binBV, nilCheckV, bytesV, V.cells, V.stays, Orc.nothing, c45, q, Int.natCast_one, Nat.reduceAdd])
    exact RetV.same (by simp [Lib.indexByte])
  · have q : ([c] = s) = False := by simp; exact fun e => h e.symm
    (refine Runs.of_step Orc.nothing 300 ?_; simp -implicitDefEqProofs only [BB, effR_some, effD_some, Int.reduceEq, Int.reduceNe, Int.reduceLT, Int.reduceLE, Int.reduceGT, Int.reduceGE, Nat.reduceEqDiff, Nat.reduceAdd, Nat.reduceMul, Nat.reduceLeDiff, Nat.reduceSub, Nat.reduceLT, Nat.reduceBEq, ↓reduceIte, reduceCtorEq, ← decide_not, okind, vpre, vpure, intBin, intPre, strBin, strPre, popTo, argSlots, fldV, fldAV, subCells, idxVV, idxAAV, sliceV, sliceSV, boundV, szIs, storeOp, storeS, setRowV, eff, extV, buildV, splice, eqSV, fitsL, eqCells, eqCell, minmaxV, capV, binBV, nilCheckV, bytesV, V.cells, V.stays, Orc.nothing, c45, q, hx, Int.natCast_one, Nat.reduceAdd])
    refine Runs.pcall rfl rfl rfl (indexByte_c s c _) ?_
    (refine Runs.of_step Orc.nothing 300 ?_; simp -implicitDefEqProofs only [BB, effR_some, effD_some, Int.reduceEq, Int.reduceNe, Int.reduceLT, Int.reduceLE, Int.reduceGT, Int.reduceGE, Nat.reduceEqDiff, Nat.reduceAdd, Nat.reduceMul, Nat.reduceLeDiff, Nat.reduceSub, Nat.reduceLT, Nat.reduceBEq, ↓reduceIte, reduceCtorEq, ← decide_not, okind, vpre, vpure, intBin, intPre, strBin, strPre, popTo, argSlots, fldV, fldAV, subCells, idxVV, idxAAV, idxSV, sliceV, sliceSV, boundV, szIs, storeOp, storeS, setRowV, eff, extV, buildV, splice, eqSV, fitsL, eqCells, eqCell, minmaxV, capV, binBV, nilCheckV, bytesV, V.cells, V.stays, Orc.nothing])
    exact RetV.same rfl
theorem index59_c (s : List UInt8) (c : UInt8) : PFun Tryd.prog 59 [.str s, .str [c]] (vI (Lib.indexByte s c)) := fun σ => by
  refine Contract.of_runs Tryd.func59 e59 k59 (by simp [c59]) ?_
  refine Runs.mix 5 ?_
  (refine Runs.of_step Orc.nothing 300 ?_; simp -implicitDefEqProofs only [BB, effR_some, effD_some, Int.reduceEq, Int.reduceNe, Int.reduceLT, Int.reduceLE, Int.reduceGT, Int.reduceGE, Nat.reduceEqDiff, Nat.reduceAdd, Nat.reduceMul, Nat.reduceLeDiff, Nat.reduceSub, Nat.reduceLT, Nat.reduceBEq, ↓reduceIte, reduceCtorEq, ← decide_not, okind, vpre, vpure, intBin, intPre, strBin, strPre, popTo, argSlots, fldV, fldAV, subCells, idxVV, idxAAV, idxSV, sliceV, sliceSV, boundV, szIs, storeOp, storeS, setRowV, eff, extV, buildV, splice, eqSV, fitsL, eqCells, eqCell, minmaxV, capV, binBV, nilCheckV, bytesV, V.cells, V.stays, Orc.nothing, c59])
  refine Runs.pcall rfl rfl rfl (index45_c s c _) ?_
  (refine Runs.of_step Orc.nothing 300 ?_; simp -implicitDefEqProofs only [BB, effR_some, effD_some, Int.reduceEq, Int.reduceNe, Int.reduceLT, Int.reduceLE, Int.reduceGT, Int.reduceGE, Nat.reduceEqDiff, Nat.reduceAdd, Nat.reduceMul, Nat.reduceLeDiff, Nat.reduceSub, Nat.reduceLT, Nat.reduceBEq, ↓reduceIte, reduceCtorEq, ← decide_not, okind, vpre, vpure, intBin, intPre, strBin, strPre, popTo, argSlots, fldV, fldAV, subCells, idxVV, idxAAV, idxSV, sliceV, sliceSV, boundV, szIs, storeOp, storeS, setRowV, eff, extV, buildV, splice, eqSV, fitsL, eqCells, eqCell, minmaxV, capV, binBV, nilCheckV, bytesV, V.cells, V.stays, Orc.nothing])
  exact RetV.same rfl
/-- a text, cut at the first such byte -/
def cutL (c : UInt8) (s : List UInt8) : V := if Lib.indexByte s c < 0 then .tup [.str s, .str [], .bool false]
  else .tup [.str (s.take (Lib.indexByte s c).toNat), .str (s.drop ((Lib.indexByte s c).toNat + 1)), .bool true]
theorem slice_to {s : List UInt8} {k : Nat} (h : k ≤ s.length) : sliceSV (.str s) none (some (vI k)) = some (.str (s.take k)) := by
  simp only [sliceSV, boundV]
  rw [if_pos (by omega)]
  simp
theorem slice_from {s : List UInt8} {k : Nat} (h : k ≤ s.length) : sliceSV (.str s) (some (vI k)) none = some (.str (s.drop k)) := by
  simp only [sliceSV, boundV]
  rw [if_pos (by omega), show ((s.length : Int)).toNat - ((k : Int)).toNat = s.length - k by omega, Int.toNat_natCast, List.take_of_length_le (by simp)]
theorem cut38_c (s : List UInt8) (c : UInt8) (hs : s.length ≤ 1000000000) : PFun Tryd.prog 38 [.str s, .str [c]] (cutL c s) := fun σ => by
  refine Contract.of_runs Tryd.func38 e38 k38 (by simp [c38]) ?_
  refine Runs.mix 8 ?_
  (refine Runs.of_step Orc.nothing 300 ?_; simp -implicitDefEqProofs only [BB, effR_some, effD_some, Int.reduceEq, Int.reduceNe, Int.reduceLT, Int.reduceLE, Int.reduceGT, Int.reduceGE, Nat.reduceEqDiff, Nat.reduceAdd, Nat.reduceMul, Nat.reduceLeDiff, Nat.reduceSub, Nat.reduceLT, Nat.reduceBEq, ↓reduceIte, reduceCtorEq, ← decide_not, okind, vpre, vpure, intBin, intPre, strBin, strPre, popTo, argSlots, fldV, fldAV, subCells, idxVV, idxAAV, idxSV, sliceV, sliceSV, boundV, szIs, storeOp, storeS, setRowV, eff, extV, buildV, splice, eqSV, fitsL, eqCells, eqCell, minmaxV, capV, binBV, nilCheckV, bytesV, V.cells, V.stays, Orc.nothing, c38])
  refine Runs.pcall rfl rfl rfl (index45_c s c _) ?_
  unfold cutL
  rcases idx_cases c s with ⟨h1, _⟩ | ⟨k, h1, h2, _⟩
  · rw [h1]
    have q : ((-1 : Int) ≥ 0) = False := by simp
    (refine Runs.of_step Orc.nothing 300 ?_; simp -implicitDefEqProofs only [BB, effR_some, effD_some, Int.reduceEq, Int.reduceNe, Int.reduceLT, Int.reduceLE, Int.reduceGT, Int.reduceGE, Nat.reduceEqDiff, Nat.reduceAdd, Nat.reduceMul, Nat.reduceLeDiff, Nat.reduceSub, Nat.reduceLT, Nat.reduceBEq, ↓reduceIte, reduceCtorEq, ← decide_not, okind, vpre, vpure, intBin, intPre, strBin, strPre, popTo, argSlots, fldV, fldAV, subCells, idxVV, idxAAV, idxSV, sliceV, sliceSV, boundV, szIs, storeOp, storeS, setRowV, eff, extV, buildV, splice, eqSV, fitsL, eqCells, eqCell, minmaxV, capV, binBV, nilCheckV, bytesV, V.cells, V.stays, Orc.nothing, q])
    exact RetV.same (by simp)
  · rw [h1]
    have q : ((k : Int) ≥ 0) = True := by simp
    have s1 := slice_to (s := s) (k := k) (by omega)
    have s2 := slice_from (s := s) (k := k + 1) (by omega)
    have e1 : ((k + 1 : Nat) : Int) = (k : Int) + 1 := by omega
    rw [e1] at s2
    have r1 : inR .i64 ((k : Int) + 1) := inR_i64 (by omega) (by omega)
    (refine Runs.of_step Orc.nothing 300 ?_; simp -implicitDefEqProofs only [BB, effR_some, effD_some, Int.reduceEq, Int.reduceNe, Int.reduceLT, Int.reduceLE, Int.reduceGT, Int.reduceGE, Nat.reduceEqDiff, Nat.reduceAdd, Nat.reduceMul, Nat.reduceLeDiff, Nat.reduceSub, Nat.reduceLT, Nat.reduceBEq, ↓reduceIte, reduceCtorEq, ← decide_not, okind, vpre, vpure, intBin, intPre, strBin, strPre, popTo, argSlots, fldV, fldAV, subCells, idxVV, idxAAV, idxSV, sliceV, boundV, szIs, storeOp, storeS, setRowV, eff, extV, buildV, splice, eqSV, fitsL, eqCells, eqCell, minmaxV, capV, binBV, nilCheckV, bytesV, V.cells, V.stays, Orc.nothing, q, s1, s2, r1, Int.natCast_one, Nat.reduceAdd])
    exact RetV.same (by rw [if_neg (by omega)]; simp)
theorem cut_c (s : List UInt8) (c : UInt8) (hs : s.length ≤ 1000000000) : PFun Tryd.prog 24 [.str s, .str [c]] (cutL c s) := fun σ => by
  refine Contract.of_runs Tryd.func24 e24 k24 (by simp [c24]) ?_
  refine Runs.mix 7 ?_
  (refine Runs.of_step Orc.nothing 300 ?_; simp -implicitDefEqProofs only [BB, effR_some, effD_some, Int.reduceEq, Int.reduceNe, Int.reduceLT, Int.reduceLE, Int.reduceGT, Int.reduceGE, Nat.reduceEqDiff, Nat.reduceAdd, Nat.reduceMul, Nat.reduceLeDiff, Nat.reduceSub, Nat.reduceLT, Nat.reduceBEq, ↓reduceIte, reduceCtorEq, ← decide_not, okind, vpre, vpure, intBin, intPre, strBin, strPre, popTo, argSlots, fldV, fldAV, subCells, idxVV, idxAAV, idxSV, sliceV, sliceSV, boundV, szIs, storeOp, storeS, setRowV, eff, extV, buildV, splice, eqSV, fitsL, eqCells, eqCell, minmaxV, capV, binBV, nilCheckV, bytesV, V.cells, V.stays, Orc.nothing, c24])
  refine Runs.pcall rfl rfl rfl (cut38_c s c hs _) ?_
  unfold cutL
  split
  · (refine Runs.of_step Orc.nothing 300 ?_; simp -implicitDefEqProofs only [BB, effR_some, effD_some, Int.reduceEq, Int.reduceNe, Int.reduceLT, Int.reduceLE, Int.reduceGT, Int.reduceGE, Nat.reduceEqDiff, Nat.reduceAdd, Nat.reduceMul, Nat.reduceLeDiff, Nat.reduceSub, Nat.reduceLT, Nat.reduceBEq, ↓reduceIte, reduceCtorEq, ← decide_not, okind, vpre, vpure, intBin, intPre, strBin, strPre, popTo, argSlots, fldV, fldAV, subCells, idxVV, idxAAV, idxSV, sliceV, sliceSV, boundV, szIs, storeOp, storeS, setRowV, eff, extV, buildV, splice, eqSV, fitsL, eqCells, eqCell, minmaxV, capV, binBV, nilCheckV, bytesV, V.cells, V.stays, Orc.nothing])
    exact RetV.same rfl
  · (refine Runs.of_step Orc.nothing 300 ?_; simp -implicitDefEqProofs only [BB, effR_some, effD_some, Int.reduceEq, Int.reduceNe, Int.reduceLT, Int.reduceLE, Int.reduceGT, Int.reduceGE, Nat.reduceEqDiff, Nat.reduceAdd, Nat.reduceMul, Nat.reduceLeDiff, Nat.reduceSub, Nat.reduceLT, Nat.reduceBEq, ↓reduceIte, reduceCtorEq, ← decide_not, okind, vpre, vpure, intBin, intPre, strBin, strPre, popTo, argSlots, fldV, fldAV, subCells, idxVV, idxAAV, idxSV, sliceV, sliceSV, boundV, szIs, storeOp, storeS, setRowV, eff, extV, buildV, splice, eqSV, fitsL, eqCells, eqCell, minmaxV, capV, binBV, nilCheckV, bytesV, V.cells, V.stays, Orc.nothing])
    exact RetV.same rfl
end Go.Vc
namespace Go.Vc
open Go.Proofs
def encS (l : List (List UInt8)) : V := .sl 1 (l.map .str)
set_option maxRecDepth 100000 in
theorem split46_c (s : List UInt8) (c : UInt8) (hs : s.length ≤ 1000000000) : PFun Tryd.prog 46 [.str s, .str [c], vI 0, vI (-1)] (encS (splitL c s)) := fun σ => by
  refine Contract.of_runs Tryd.func46 e46 k46 (by simp [c46]) ?_
  refine Runs.mix 12 ?_
  have q0 : ([c] = ([] : List UInt8)) = False := by simp
  have hcl : s.count c ≤ s.length := List.count_le_length
  have hlen := splitL_len c s
  have r1 : inR .i64 ((s.count c : Int) + 1) := inR_i64 (by omega) (by omega)
  have r2 : inR .i64 ((s.length : Int) + 1) := inR_i64 (by omega) (by omega)
  have r3 : inR .i64 ((s.count c : Int) + 1 - 1) := inR_i64 (by omega) (by omega)
  have qm : ((s.length : Int) + 1 < (s.count c : Int) + 1) = False := by simp; omega
  have e1 : ((s.count c : Int) + 1 - 1) = (s.count c : Int) := by omega
  have e2 : ((s.count c : Int) + 1).toNat = s.count c + 1 := by omega
  have q2 : (0 ≤ (s.count c : Int) + 1 ∧ (s.count c + 1) * 17 ≤ 140737488355328) = True := by simp; omega
  (refine Runs.of_step Orc.nothing 300 ?_; simp -implicitDefEqProofs only [BB, Int.reduceEq, Int.reduceNe, Int.reduceLT, Int.reduceLE, Int.reduceGT, Int.reduceGE, Nat.reduceEqDiff, Nat.reduceAdd, Nat.reduceMul, Nat.reduceLeDiff, Nat.reduceSub, Nat.reduceLT, Nat.reduceBEq, ↓reduceIte, reduceCtorEq, ← decide_not, okind, vpre, vpure, intBin, intPre, strBin, strPre, popTo, argSlots, fldV, fldAV, subCells, idxVV, idxAAV, idxSV, sliceV, sliceSV, boundV, szIs, storeOp, storeS, setRowV, eff, extV, buildV, splice, eqSV, fitsL, eqCells, eqCell, minmaxV, capV, binBV, nilCheckV, bytesV, V.cells, V.stays, Orc.nothing, c46, q0])
  refine Runs.pcall rfl rfl rfl (count_c s c _) ?_
  have hcb : Lib.countByte s c = s.count c := rfl
  rw [hcb]
  (refine Runs.of_step Orc.nothing 300 ?_; simp -implicitDefEqProofs only [BB, Int.reduceEq, Int.reduceNe, Int.reduceLT, Int.reduceLE, Int.reduceGT, Int.reduceGE, Nat.reduceEqDiff, Nat.reduceAdd, Nat.reduceMul, Nat.reduceLeDiff, Nat.reduceSub, Nat.reduceLT, Nat.reduceBEq, ↓reduceIte, reduceCtorEq, ← decide_not, okind, vpre, vpure, intBin, intPre, strBin, strPre, popTo, argSlots, fldV, fldAV, subCells, idxVV, idxAAV, idxSV, sliceV, sliceSV, boundV, szIs, storeOp, storeS, setRowV, eff, extV, buildV, splice, eqSV, fitsL, eqCells, eqCell, minmaxV, capV, binBV, nilCheckV, bytesV, V.cells, V.stays, Orc.nothing, r1, r2, r3, qm, e1, e2, q2])
  refine effR_new fun id9 σ1 s1 a9 f9 => ?_
  simp -implicitDefEqProofs only [BB, Int.reduceEq, Int.reduceNe, Int.reduceLT, Int.reduceLE, Int.reduceGT, Int.reduceGE, Nat.reduceEqDiff, Nat.reduceAdd, Nat.reduceMul, Nat.reduceLeDiff, Nat.reduceSub, Nat.reduceLT, Nat.reduceBEq, ↓reduceIte, reduceCtorEq, ← decide_not, okind, vpre, vpure, intBin, intPre, strBin, strPre, popTo, argSlots, fldV, fldAV, subCells, idxVV, idxAAV, idxSV, sliceV, sliceSV, boundV, szIs, storeOp, storeS, setRowV, eff, extV, buildV, splice, eqSV, fitsL, eqCells, eqCell, minmaxV, capV, binBV, nilCheckV, bytesV, V.cells, V.stays, e1, r3]
  generalize hn : s.count c = n at *
  refine ⟨inR_i64 (by omega) (by omega), ?_⟩
  refine Runs.loop (fun m st => ∃ (i : Nat) (u : List UInt8) (done : List (List UInt8)), i ≤ n ∧ m = n - i ∧ done.length = i ∧ splitL c s = done ++ splitL c u ∧ u.length ≤ s.length ∧ SubStore σ st.σ ∧
    st.σ id9 = some ⟨9, 1, done.map .str ++ List.replicate (n + 1 - i) (.str [])⟩ ∧ st.s 0 = .str u ∧ st.s 1 = .str [c] ∧ st.s 2 = vI 0 ∧ st.s 3 = vI n ∧ st.s 9 = .own id9 0 (n + 1) ∧ st.s 10 = vI i) n ?_ ?_
  · exact ⟨0, s, [], by omega, by omega, rfl, rfl, by omega, s1, by simpa using a9, rfl, rfl, rfl, rfl, rfl, rfl⟩
  · rintro m ⟨s', σ'⟩ ⟨i, u, done, hi, rfl, hdl, hsp, hul, hsub, hrow, h0, h1, h2, h3, h9, h10⟩
    simp only at hsub hrow h0 h1 h2 h3 h9 h10
    refine Runs.mix 12 ?_
    have hul2 : (splitL c u).length = n + 1 - i := by
      have := congrArg List.length hsp
      rw [List.length_append, hlen, hdl] at this
      omega
    by_cases hlt : i < n
    · have hlt' : ((i : Int) < (n : Int)) = True := by simp; omega
      (refine Runs.of_step Orc.nothing 300 ?_; simp -implicitDefEqProofs only [BB, Int.reduceEq, Int.reduceNe, Int.reduceLT, Int.reduceLE, Int.reduceGT, Int.reduceGE, Nat.reduceEqDiff, Nat.reduceAdd, Nat.reduceMul, Nat.reduceLeDiff, Nat.reduceSub, Nat.reduceLT, Nat.reduceBEq, ↓reduceIte, reduceCtorEq, ← decide_not, okind, vpre, vpure, intBin, intPre, strBin, strPre, popTo, argSlots, fldV, fldAV, subCells, idxVV, idxAAV, idxSV, sliceV, sliceSV, boundV, szIs, storeOp, storeS, setRowV, eff, extV, buildV, splice, eqSV, fitsL, eqCells, eqCell, minmaxV, capV, binBV, nilCheckV, bytesV, V.cells, V.stays, Orc.nothing, h0, h1, h2, h3, h9, h10, hlt'])
      refine Runs.pcall rfl rfl rfl (index59_c u c _) ?_
      rcases idx_cases c u with ⟨g1, g2⟩ | ⟨k, g1, g2, g3⟩
      · rw [g2] at hul2; simp at hul2; omega
      · rw [g1]
        have w1 : ((k : Int) < 0) = False := by simp
        have z1 := slice_to (s := u) (k := k) (by omega)
        have z2 := slice_from (s := u) (k := k + 1) (by omega)
        have e3 : ((k + 1 : Nat) : Int) = (k : Int) + 1 := by omega
        rw [e3] at z2
        have e4 : (k : Int) + 0 = k := by omega
        have t1 : inR .i64 (k : Int) := inR_i64 (by omega) (by omega)
        have t2 : inR .i64 ((k : Int) + 1) := inR_i64 (by omega) (by omega)
        have t3 : inR .i64 ((i : Int) + 1) := inR_i64 (by omega) (by omega)
        have hidx : idxAV σ' 1 (.own id9 0 (n + 1)) (vI i) = some (.ptr id9 i 0) := by
          simp only [idxAV, hrow]
          rw [if_pos (by simp; omega)]
          simp
        have hst : storeS σ' 1 (.ptr id9 i 0) (.str (u.take k)) = some (upd σ' id9 ⟨9, 1, (done.map V.str ++ List.replicate (n + 1 - i) (V.str [])).set i (.str (u.take k))⟩) := by
          have hget : (done.map V.str ++ List.replicate (n + 1 - i) (V.str []))[i]? = some (V.str []) := by
            rw [List.getElem?_append_right (by simp; omega)]
            simp [hdl, List.getElem?_replicate]
            omega
          simp only [storeS, hrow, hget]
          rfl
        have hset : (done.map V.str ++ List.replicate (n + 1 - i) (V.str [])).set i (.str (u.take k)) = (done ++ [u.take k]).map V.str ++ List.replicate (n + 1 - (i + 1)) (V.str []) := by
          rw [List.set_append_right _ _ (by simp; omega), List.map_append, List.append_assoc]
          congr 1
          rw [List.length_map, hdl, Nat.sub_self, show n + 1 - i = (n + 1 - (i + 1)) + 1 by omega, List.replicate_succ]
          rfl
        (refine Runs.of_step Orc.nothing 300 ?_; simp -implicitDefEqProofs only [BB, Int.reduceEq, Int.reduceNe, Int.reduceLT, Int.reduceLE, Int.reduceGT, Int.reduceGE, Nat.reduceEqDiff, Nat.reduceAdd, Nat.reduceMul, Nat.reduceLeDiff, Nat.reduceSub, Nat.reduceLT, Nat.reduceBEq, ↓reduceIte, reduceCtorEq, ← decide_not, okind, vpre, vpure, intBin, intPre, strBin, strPre, popTo, argSlots, fldV, fldAV, subCells, idxVV, idxAAV, idxSV, sliceV, boundV, szIs, storeOp, setRowV, eff, extV, buildV, splice, eqSV, fitsL, eqCells, eqCell, minmaxV, capV, binBV, nilCheckV, bytesV, V.cells, V.stays, Orc.nothing, h0, h1, h2, h3, h9, h10, w1, e4, t1, t2, z1, z2, hidx, hst, Int.natCast_one, Nat.reduceAdd, t3])
        refine ⟨_, by omega, i + 1, u.drop (k + 1), done ++ [u.take k], by omega, rfl, by simp [hdl], ?_, by simp; omega, ?_, ?_⟩
        · rw [hsp, g3]; simp
        · exact hsub.updK f9
        · rw [hset]; simp
    · obtain rfl : i = n := by omega
      have hlt' : ((i : Int) < (i : Int)) = False := by simp
      obtain ⟨u1, hu1⟩ : ∃ u1, splitL c u = [u1] := by
        rw [show i + 1 - i = 1 by omega] at hul2
        exact List.length_eq_one_iff.1 hul2
      have hu : u1 = u := by
        rcases idx_cases c u with ⟨_, g2⟩ | ⟨k, _, _, g3⟩
        · rw [g2] at hu1; simpa using hu1.symm
        · rw [g3] at hu1
          have := splitL_ne c (u.drop (k + 1))
          simp at hu1
          exact absurd hu1.2 this
      subst hu
      rw [hu1] at hsp
      rw [show i + 1 - i = 1 by omega] at hrow
      have hidx : idxAV σ' 1 (.own id9 0 (i + 1)) (vI i) = some (.ptr id9 i 0) := by
        simp only [idxAV, hrow]
        rw [if_pos (by simp; omega)]
        simp
      have hst : storeS σ' 1 (.ptr id9 i 0) (.str u1) = some (upd σ' id9 ⟨9, 1, (splitL c s).map .str⟩) := by
        have hget : (done.map V.str ++ List.replicate 1 (V.str []))[i]? = some (.str []) := by
          rw [List.getElem?_append_right (by simp; omega)]
          simp [hdl]
        have hset : (done.map V.str ++ List.replicate 1 (V.str [])).set i (.str u1) = (splitL c s).map V.str := by
          rw [hsp, List.map_append, List.set_append_right _ _ (by simp; omega)]
          simp [hdl]
        simp only [storeS, hrow, hget]
        rw [← hset]; rfl
      have r5 : inR .i64 ((i : Int) + 1) := inR_i64 (by omega) (by omega)
      have hsl : sliceV (upd σ' id9 ⟨9, 1, (splitL c s).map .str⟩) 1 (.own id9 0 (i + 1)) none (some (vI ((i : Int) + 1))) none = some (.own id9 0 (i + 1)) := by
        simp only [sliceV, boundV, szIs, upd_same]
        rw [if_pos ⟨by omega, by omega, by omega, by omega, by simp⟩]
        simp
      (refine Runs.of_step Orc.nothing 300 ?_; simp -implicitDefEqProofs only [BB, Int.reduceEq, Int.reduceNe, Int.reduceLT, Int.reduceLE, Int.reduceGT, Int.reduceGE, Nat.reduceEqDiff, Nat.reduceAdd, Nat.reduceMul, Nat.reduceLeDiff, Nat.reduceSub, Nat.reduceLT, Nat.reduceBEq, ↓reduceIte, reduceCtorEq, ← decide_not, okind, vpre, vpure, intBin, intPre, strBin, strPre, popTo, argSlots, fldV, fldAV, subCells, idxVV, idxAAV, idxSV, sliceSV, boundV, szIs, storeOp, setRowV, eff, extV, buildV, splice, eqSV, fitsL, eqCells, eqCell, minmaxV, capV, binBV, nilCheckV, bytesV, V.cells, V.stays, Orc.nothing, h0, h1, h2, h3, h9, h10, hlt', hidx, hst, hsl, r5])
      have hn2 : i + 1 = ((splitL c s).map V.str).length := by rw [List.length_map, hlen]
      exact (OutV.new (K := σ) (e := 9) (sz := 1) hn2 (upd_same (σ := σ') (id := id9)) f9).retv (hsub.updK f9) rfl
theorem split_c (s : List UInt8) (c : UInt8) (hs : s.length ≤ 1000000000) : PFun Tryd.prog 39 [.str s, .str [c]] (encS (splitL c s)) := fun σ => by
  refine Contract.of_runs Tryd.func39 e39 k39 (by simp [c39]) ?_
  refine Runs.mix 5 ?_
  (refine Runs.of_step Orc.nothing 300 ?_; simp -implicitDefEqProofs only [BB, effR_some, effD_some, Int.reduceEq, Int.reduceNe, Int.reduceLT, Int.reduceLE, Int.reduceGT, Int.reduceGE, Nat.reduceEqDiff, Nat.reduceAdd, Nat.reduceMul, Nat.reduceLeDiff, Nat.reduceSub, Nat.reduceLT, Nat.reduceBEq, ↓reduceIte, reduceCtorEq, ← decide_not, okind, vpre, vpure, intBin, intPre, strBin, strPre, popTo, argSlots, fldV, fldAV, subCells, idxVV, idxAAV, idxSV, sliceV, sliceSV, boundV, szIs, storeOp, storeS, setRowV, eff, extV, buildV, splice, eqSV, fitsL, eqCells, eqCell, minmaxV, capV, binBV, nilCheckV, bytesV, V.cells, V.stays, Orc.nothing, c39])
  refine Runs.pcall rfl rfl rfl (split46_c s c hs _) ?_
  (refine Runs.of_step Orc.nothing 300 ?_; simp -implicitDefEqProofs only [BB, effR_some, effD_some, Int.reduceEq, Int.reduceNe, Int.reduceLT, Int.reduceLE, Int.reduceGT, Int.reduceGE, Nat.reduceEqDiff, Nat.reduceAdd, Nat.reduceMul, Nat.reduceLeDiff, Nat.reduceSub, Nat.reduceLT, Nat.reduceBEq, ↓reduceIte, reduceCtorEq, ← decide_not, okind, vpre, vpure, intBin, intPre, strBin, strPre, popTo, argSlots, fldV, fldAV, subCells, idxVV, idxAAV, idxSV, sliceV, sliceSV, boundV, szIs, storeOp, storeS, setRowV, eff, extV, buildV, splice, eqSV, fitsL, eqCells, eqCell, minmaxV, capV, binBV, nilCheckV, bytesV, V.cells, V.stays, Orc.nothing])
  exact RetV.same rfl
/-- is one of these no length? -/
def badN (n : Int) : Bool := decide (clampI n ≠ n)
theorem bad33_c (n : Int) : PFun Tryd.prog 33 [vI n] (.bool (badN n)) := fun σ => by
  refine Contract.of_runs Tryd.func33 e33 k33 (by simp [c33]) ?_
  refine Runs.mix 3 ?_
  (refine Runs.of_step Orc.nothing 300 ?_; simp -implicitDefEqProofs only [BB, effR_some, effD_some, Int.reduceEq, Int.reduceNe, Int.reduceLT, Int.reduceLE, Int.reduceGT, Int.reduceGE, Nat.reduceEqDiff, Nat.reduceAdd, Nat.reduceMul, Nat.reduceLeDiff, Nat.reduceSub, Nat.reduceLT, Nat.reduceBEq, ↓reduceIte, reduceCtorEq, ← decide_not, okind, vpre, vpure, intBin, intPre, strBin, strPre, popTo, argSlots, fldV, fldAV, subCells, idxVV, idxAAV, idxSV, sliceV, sliceSV, boundV, szIs, storeOp, storeS, setRowV, eff, extV, buildV, splice, eqSV, fitsL, eqCells, eqCell, minmaxV, capV, binBV, nilCheckV, bytesV, V.cells, V.stays, Orc.nothing, c33])
  refine Runs.pcall rfl rfl rfl (clamp_c n _) ?_
  (refine Runs.of_step Orc.nothing 300 ?_; simp -implicitDefEqProofs only [BB, effR_some, effD_some, Int.reduceEq, Int.reduceNe, Int.reduceLT, Int.reduceLE, Int.reduceGT, Int.reduceGE, Nat.reduceEqDiff, Nat.reduceAdd, Nat.reduceMul, Nat.reduceLeDiff, Nat.reduceSub, Nat.reduceLT, Nat.reduceBEq, ↓reduceIte, reduceCtorEq, ← decide_not, okind, vpre, vpure, intBin, intPre, strBin, strPre, popTo, argSlots, fldV, fldAV, subCells, idxVV, idxAAV, idxSV, sliceV, sliceSV, boundV, szIs, storeOp, storeS, setRowV, eff, extV, buildV, splice, eqSV, fitsL, eqCells, eqCell, minmaxV, capV, binBV, nilCheckV, bytesV, V.cells, V.stays, Orc.nothing])
  exact RetV.same rfl
theorem index42_c (l : List Int) (hl : l.length ≤ 1000000000) : PFun Tryd.prog 42 [encI l, .fn 33 []] (vI (match l.findIdx? badN with | some i => i | none => -1)) := fun σ => by
  refine Contract.of_runs Tryd.func42 e42 k42 (by simp [c42]) ?_
  refine Runs.mix 9 ?_
  (refine Runs.of_step Orc.nothing 300 ?_; simp -implicitDefEqProofs only [BB, effR_some, effD_some, Int.reduceEq, Int.reduceNe, Int.reduceLT, Int.reduceLE, Int.reduceGT, Int.reduceGE, Nat.reduceEqDiff, Nat.reduceAdd, Nat.reduceMul, Nat.reduceLeDiff, Nat.reduceSub, Nat.reduceLT, Nat.reduceBEq, ↓reduceIte, reduceCtorEq, ← decide_not, okind, vpre, vpure, intBin, intPre, strBin, strPre, popTo, argSlots, fldV, fldAV, subCells, idxVV, idxAAV, idxSV, sliceV, sliceSV, boundV, szIs, storeOp, storeS, setRowV, eff, extV, buildV, splice, eqSV, fitsL, eqCells, eqCell, minmaxV, capV, binBV, nilCheckV, bytesV, V.cells, V.stays, Orc.nothing, c42, len_encI])
  refine Runs.loop (fun m st => ∃ i : Nat, i ≤ l.length ∧ m = l.length - i ∧ st.σ = σ ∧ (∀ k, ∀ h : k < l.length, k < i → badN l[k] = false) ∧ st.s 0 = encI l ∧ st.s 1 = .fn 33 [] ∧ st.s 7 = vI l.length ∧ st.s 8 = vI i) l.length ?_ ?_
  · exact ⟨0, by omega, by omega, rfl, fun _ _ h => by omega, rfl, rfl, rfl, rfl⟩
  · rintro m ⟨s', σ'⟩ ⟨i, hi, rfl, hσ, hall, h0, h1, h7, h8⟩
    simp only at hσ h0 h1 h7 h8
    subst hσ
    refine Runs.mix 9 ?_
    by_cases hlt : i < l.length
    · have hlt' : ((i : Int) < (l.length : Int)) = True := by simp; omega
      have hidx := idx_encI (σ := σ') hlt
      have r1 : inR .i64 ((i : Int) + 1) := inR_i64 (by omega) (by omega)
      (refine Runs.of_step Orc.nothing 300 ?_; simp -implicitDefEqProofs only [BB, effR_some, effD_some, Int.reduceEq, Int.reduceNe, Int.reduceLT, Int.reduceLE, Int.reduceGT, Int.reduceGE, Nat.reduceEqDiff, Nat.reduceAdd, Nat.reduceMul, Nat.reduceLeDiff, Nat.reduceSub, Nat.reduceLT, Nat.reduceBEq, ↓reduceIte, reduceCtorEq, ← decide_not, okind, vpre, vpure, intBin, intPre, strBin, strPre, popTo, argSlots, fldV, fldAV, subCells, idxVV, idxAAV, idxSV, sliceV, sliceSV, boundV, szIs, storeOp, storeS, setRowV, eff, extV, buildV, splice, eqSV, fitsL, eqCells, eqCell, minmaxV, capV, binBV, nilCheckV, bytesV, V.cells, V.stays, Orc.nothing, h0, h1, h7, h8, hlt', hidx])
      refine Runs.pcall rfl rfl rfl (bad33_c l[i] _) ?_
      cases hb : badN l[i]
      · (refine Runs.of_step Orc.nothing 300 ?_; simp -implicitDefEqProofs only [BB, effR_some, effD_some, Int.reduceEq, Int.reduceNe, Int.reduceLT, Int.reduceLE, Int.reduceGT, Int.reduceGE, Nat.reduceEqDiff, Nat.reduceAdd, Nat.reduceMul, Nat.reduceLeDiff, Nat.reduceSub, Nat.reduceLT, Nat.reduceBEq, ↓reduceIte, reduceCtorEq, ← decide_not, okind, vpre, vpure, intBin, intPre, strBin, strPre, popTo, argSlots, fldV, fldAV, subCells, idxVV, idxAAV, idxSV, sliceV, sliceSV, boundV, szIs, storeOp, storeS, setRowV, eff, extV, buildV, splice, eqSV, fitsL, eqCells, eqCell, minmaxV, capV, binBV, nilCheckV, bytesV, V.cells, V.stays, Orc.nothing, h0, h1, h7, h8, r1])
        refine ⟨_, by omega, i + 1, by omega, rfl, fun k hk hki => ?_, by simp [h0, h1, h7]⟩
        rcases Nat.lt_or_ge k i with g | g
        · exact hall k hk g
        · obtain rfl : k = i := by omega
          exact hb
      · (refine Runs.of_step Orc.nothing 300 ?_; simp -implicitDefEqProofs only [BB, effR_some, effD_some, Int.reduceEq, Int.reduceNe, Int.reduceLT, Int.reduceLE, Int.reduceGT, Int.reduceGE, Nat.reduceEqDiff, Nat.reduceAdd, Nat.reduceMul, Nat.reduceLeDiff, Nat.reduceSub, Nat.reduceLT, Nat.reduceBEq, ↓reduceIte, reduceCtorEq, ← decide_not, okind, vpre, vpure, intBin, intPre, strBin, strPre, popTo, argSlots, fldV, fldAV, subCells, idxVV, idxAAV, idxSV, sliceV, sliceSV, boundV, szIs, storeOp, storeS, setRowV, eff, extV, buildV, splice, eqSV, fitsL, eqCells, eqCell, minmaxV, capV, binBV, nilCheckV, bytesV, V.cells, V.stays, Orc.nothing, h0, h1, h7, h8])
        refine RetV.same ?_
        have : l.findIdx? badN = some i := List.findIdx?_eq_some_iff_getElem.2 ⟨hlt, hb, fun j hj => by simpa using hall j (by omega) hj⟩
        rw [this]
    · have hlt' : ((i : Int) < (l.length : Int)) = False := by simp; omega
      (refine Runs.of_step Orc.nothing 300 ?_; simp -implicitDefEqProofs only [BB, effR_some, effD_some, Int.reduceEq, Int.reduceNe, Int.reduceLT, Int.reduceLE, Int.reduceGT, Int.reduceGE, Nat.reduceEqDiff, Nat.reduceAdd, Nat.reduceMul, Nat.reduceLeDiff, Nat.reduceSub, Nat.reduceLT, Nat.reduceBEq, ↓reduceIte, reduceCtorEq, ← decide_not, okind, vpre, vpure, intBin, intPre, strBin, strPre, popTo, argSlots, fldV, fldAV, subCells, idxVV, idxAAV, idxSV, sliceV, sliceSV, boundV, szIs, storeOp, storeS, setRowV, eff, extV, buildV, splice, eqSV, fitsL, eqCells, eqCell, minmaxV, capV, binBV, nilCheckV, bytesV, V.cells, V.stays, Orc.nothing, h0, h1, h7, h8, hlt'])
      refine RetV.same ?_
      have : l.findIdx? badN = none := List.findIdx?_eq_none_iff.2 fun x hx => by
        obtain ⟨k, hk, rfl⟩ := List.mem_iff_getElem.1 hx
        exact hall k hk (by omega)
      rw [this]
theorem contains_c (l : List Int) (hl : l.length ≤ 1000000000) : PFun Tryd.prog 32 [encI l, .fn 33 []] (.bool (l.any badN)) := fun σ => by
  refine Contract.of_runs Tryd.func32 e32 k32 (by simp [c32]) ?_
  refine Runs.mix 5 ?_
  (refine Runs.of_step Orc.nothing 300 ?_; simp -implicitDefEqProofs only [BB, effR_some, effD_some, Int.reduceEq, Int.reduceNe, Int.reduceLT, Int.reduceLE, Int.reduceGT, Int.reduceGE, Nat.reduceEqDiff, Nat.reduceAdd, Nat.reduceMul, Nat.reduceLeDiff, Nat.reduceSub, Nat.reduceLT, Nat.reduceBEq, ↓reduceIte, reduceCtorEq, ← decide_not, okind, vpre, vpure, intBin, intPre, strBin, strPre, popTo, argSlots, fldV, fldAV, subCells, idxVV, idxAAV, idxSV, sliceV, sliceSV, boundV, szIs, storeOp, storeS, setRowV, eff, extV, buildV, splice, eqSV, fitsL, eqCells, eqCell, minmaxV, capV, binBV, nilCheckV, bytesV, V.cells, V.stays, Orc.nothing, c32])
  refine Runs.pcall rfl rfl rfl (index42_c l hl _) ?_
  cases h : l.findIdx? badN with
  | none =>
    have ha : l.any badN = false := by
      rw [List.any_eq_false]; intro x hx; simp [List.findIdx?_eq_none_iff.1 h x hx]
    (refine Runs.of_step Orc.nothing 300 ?_; simp -implicitDefEqProofs only [BB, effR_some, effD_some, Int.reduceEq, Int.reduceNe, Int.reduceLT, Int.reduceLE, Int.reduceGT, Int.reduceGE, Nat.reduceEqDiff, Nat.reduceAdd, Nat.reduceMul, Nat.reduceLeDiff, Nat.reduceSub, Nat.reduceLT, Nat.reduceBEq, ↓reduceIte, reduceCtorEq, ← decide_not, okind, vpre, vpure, intBin, intPre, strBin, strPre, popTo, argSlots, fldV, fldAV, subCells, idxVV, idxAAV, idxSV, sliceV, sliceSV, boundV, szIs, storeOp, storeS, setRowV, eff, extV, buildV, splice, eqSV, fitsL, eqCells, eqCell, minmaxV, capV, binBV, nilCheckV, bytesV, V.cells, V.stays, Orc.nothing])
    exact RetV.same (by rw [ha] <;> simp)
  | some i =>
    obtain ⟨h1, h2, _⟩ := List.findIdx?_eq_some_iff_getElem.1 h
    have ha : l.any badN = true := List.any_eq_true.2 ⟨_, List.getElem_mem h1, h2⟩
    (refine Runs.of_step Orc.nothing 300 ?_; simp -implicitDefEqProofs only [BB, effR_some, effD_some, Int.reduceEq, Int.reduceNe, Int.reduceLT, Int.reduceLE, Int.reduceGT, Int.reduceGE, Nat.reduceEqDiff, Nat.reduceAdd, Nat.reduceMul, Nat.reduceLeDiff, Nat.reduceSub, Nat.reduceLT, Nat.reduceBEq, ↓reduceIte, reduceCtorEq, ← decide_not, okind, vpre, vpure, intBin, intPre, strBin, strPre, popTo, argSlots, fldV, fldAV, subCells, idxVV, idxAAV, idxSV, sliceV, sliceSV, boundV, szIs, storeOp, storeS, setRowV, eff, extV, buildV, splice, eqSV, fitsL, eqCells, eqCell, minmaxV, capV, binBV, nilCheckV, bytesV, V.cells, V.stays, Orc.nothing])
    exact RetV.same (by rw [ha] <;> simp)
structure Fl where
  no : Int
  kind : Int
  used : Int
  free : Int
  deriving DecidableEq
def encF (x : Fl) : V := .agg [vI x.no, vI x.kind, vI x.used, vI x.free]
def rightB (x : Fl) : Bool := !([x.no, x.kind, x.used, x.free].any badN)
theorem right_c (x : Fl) : PFun Tryd.prog 17 [encF x] (.bool (rightB x)) := fun σ => by
  refine Contract.of_runs Tryd.func17 e17 k17 (by simp [c17]) ?_
  refine Runs.mix 3 ?_
  (refine Runs.of_step Orc.nothing 300 ?_; simp -implicitDefEqProofs only [BB, Int.reduceEq, Int.reduceNe, Int.reduceLT, Int.reduceLE, Int.reduceGT, Int.reduceGE, Nat.reduceEqDiff, Nat.reduceAdd, Nat.reduceMul, Nat.reduceLeDiff, Nat.reduceSub, Nat.reduceLT, Nat.reduceBEq, ↓reduceIte, reduceCtorEq, ← decide_not, okind, vpre, vpure, intBin, intPre, strBin, strPre, popTo, argSlots, fldV, fldAV, subCells, idxVV, idxAAV, idxSV, sliceV, sliceSV, boundV, szIs, storeOp, storeS, setRowV, eff, extV, buildV, splice, eqSV, fitsL, eqCells, eqCell, minmaxV, capV, binBV, nilCheckV, bytesV, V.cells, V.stays, Orc.nothing, c17, encF])
  refine effR_new fun id1 σ1 s1 a1 f1 => ?_
  simp -implicitDefEqProofs only [BB, Int.reduceEq, Int.reduceNe, Int.reduceLT, Int.reduceLE, Int.reduceGT, Int.reduceGE, Nat.reduceEqDiff, Nat.reduceAdd, Nat.reduceMul, Nat.reduceLeDiff, Nat.reduceSub, Nat.reduceLT, Nat.reduceBEq, ↓reduceIte, reduceCtorEq, ← decide_not, okind, vpre, vpure, intBin, intPre, strBin, strPre, popTo, argSlots, fldV, fldAV, subCells, idxVV, idxAAV, idxSV, sliceV, sliceSV, boundV, szIs, storeOp, storeS, setRowV, eff, extV, buildV, splice, eqSV, fitsL, eqCells, eqCell, minmaxV, capV, binBV, nilCheckV, bytesV, V.cells, V.stays, a1]
  refine effR_new fun id2 σ2 s2 a2 f2 => ?_
  simp -implicitDefEqProofs only [BB, Int.reduceEq, Int.reduceNe, Int.reduceLT, Int.reduceLE, Int.reduceGT, Int.reduceGE, Nat.reduceEqDiff, Nat.reduceAdd, Nat.reduceMul, Nat.reduceLeDiff, Nat.reduceSub, Nat.reduceLT, Nat.reduceBEq, ↓reduceIte, reduceCtorEq, ← decide_not, okind, vpre, vpure, intBin, intPre, strBin, strPre, popTo, argSlots, fldV, fldAV, subCells, idxVV, idxAAV, idxSV, sliceV, sliceSV, boundV, szIs, storeOp, storeS, setRowV, eff, extV, buildV, splice, eqSV, fitsL, eqCells, eqCell, minmaxV, capV, binBV, nilCheckV, bytesV, V.cells, V.stays]
  have hc := PFun.borrow (σ := σ2) (args := [.own id2 0 4, .fn 33 []]) (args' := [encI [x.no, x.kind, x.used, x.free], .fn 33 []])
    ⟨by have := Wk.own (nost_sub σ2) a2 (σ' := nost) rfl (off := 0) (len := 4) (by simp); exact this, Wk.fn trivial, trivial⟩ (contains_c _ (by simp)) rfl
  refine Runs.pcall rfl rfl rfl hc ?_
  (refine Runs.of_step Orc.nothing 300 ?_; simp -implicitDefEqProofs only [BB, Int.reduceEq, Int.reduceNe, Int.reduceLT, Int.reduceLE, Int.reduceGT, Int.reduceGE, Nat.reduceEqDiff, Nat.reduceAdd, Nat.reduceMul, Nat.reduceLeDiff, Nat.reduceSub, Nat.reduceLT, Nat.reduceBEq, ↓reduceIte, reduceCtorEq, ← decide_not, okind, vpre, vpure, intBin, intPre, strBin, strPre, popTo, argSlots, fldV, fldAV, subCells, idxVV, idxAAV, idxSV, sliceV, sliceSV, boundV, szIs, storeOp, storeS, setRowV, eff, extV, buildV, splice, eqSV, fitsL, eqCells, eqCell, minmaxV, capV, binBV, nilCheckV, bytesV, V.cells, V.stays, Orc.nothing])
  exact RetV.pure (s1.trans s2) rfl
end Go.Vc
namespace Go.Proofs
open Go.Shelf
def Tryd.lays169_ren : Go.Shelf.Ren := ⟨fun | 169 => 21 | n => n, fun | 70 => 48 | 9 => 9 | 0 => 0 | 72 => 51 | 37 => 49 | 127 => 80 | 3 => 3 | 5 => 5 | n => n, fun | n => n⟩
theorem Tryd.lays169 : Go.Proofs.Lays.n169 Tryd.prog Tryd.lays169_ren := {
  mixed := by kernel_rfl
  f169 := Tryd.func21.trans (congrArg some (by kernel_rfl))
  t0 := Tryd.underlying0
  a0 := Tryd.isAgg0
  z0 := Tryd.sizeOf0
  v0 := Tryd.zeroValue0
  t3 := Tryd.underlying3
  a3 := Tryd.isAgg3
  z3 := Tryd.sizeOf3
  v3 := Tryd.zeroValue3
  t9 := Tryd.underlying9
  a9 := Tryd.isAgg9
  z9 := Tryd.sizeOf9
  v9 := Tryd.zeroValue9
  t37 := Tryd.underlying49
  a37 := Tryd.isAgg49
  z37 := Tryd.sizeOf49
  v37 := Tryd.zeroValue49
  t70 := Tryd.underlying48
  a70 := Tryd.isAgg48
  z70 := Tryd.sizeOf48
  v70 := Tryd.zeroValue48
  t72 := Tryd.underlying51
  a72 := Tryd.isAgg51
  z72 := Tryd.sizeOf51
  v72 := Tryd.zeroValue51
  t127 := Tryd.underlying80
  a127 := Tryd.isAgg80
  z127 := Tryd.sizeOf80
  v127 := Tryd.zeroValue80 }
theorem Tryd.Builder_Extra_169 : Builder.Extra Tryd.prog Tryd.lays169_ren := {
  sizeBuilder := by kernel_rfl
  liesBuilder := by kernel_rfl
  t5 := Tryd.underlying5
  a5 := Tryd.isAgg5
  z5 := Tryd.sizeOf5
  v5 := Tryd.zeroValue5
  infoByte := by kernel_rfl
  cellsByte := by kernel_rfl
  sizeByte := by kernel_rfl
  neB5 := by decide }
def Tryd.laysM171_ren : Go.Shelf.Ren := ⟨fun | 171 => 20 | 243 => 36 | 246 => 44 | 283 => 49 | 284 => 50 | 285 => 51 | 286 => 52 | 129 => 66 | 317 => 65 | 318 => 67 | 319 => 68 | 320 => 69 | 337 => 78 | 338 => 79 | n => n, fun | 3 => 3 | 9 => 9 | 2 => 2 | 4 => 4 | 171 => 91 | 0 => 0 | 53 => 92 | 37 => 49 | 5 => 5 | 173 => 95 | 212 => 107 | 51 => 108 | 20 => 20 | 213 => 109 | 46 => 98 | 232 => 128 | 233 => 129 | n => n, fun | 17 => 1 | 18 => 4 | 19 => 5 | n => n⟩
theorem Tryd.laysM171 : Go.Proofs.LaysM.n171 Tryd.prog Tryd.laysM171_ren := {
  mixed := by kernel_rfl
  f129 := Tryd.func66.trans (congrArg some (by kernel_rfl))
  f171 := Tryd.func20.trans (congrArg some (by kernel_rfl))
  f243 := Tryd.func36.trans (congrArg some (by kernel_rfl))
  f246 := Tryd.func44.trans (congrArg some (by kernel_rfl))
  f283 := Tryd.func49.trans (congrArg some (by kernel_rfl))
  f284 := Tryd.func50.trans (congrArg some (by kernel_rfl))
  f285 := Tryd.func51.trans (congrArg some (by kernel_rfl))
  f286 := Tryd.func52.trans (congrArg some (by kernel_rfl))
  f317 := Tryd.func65.trans (congrArg some (by kernel_rfl))
  f318 := Tryd.func67.trans (congrArg some (by kernel_rfl))
  f319 := Tryd.func68.trans (congrArg some (by kernel_rfl))
  f320 := Tryd.func69.trans (congrArg some (by kernel_rfl))
  f337 := Tryd.func78.trans (congrArg some (by kernel_rfl))
  f338 := Tryd.func79.trans (congrArg some (by kernel_rfl))
  t0 := Tryd.underlying0
  a0 := Tryd.isAgg0
  z0 := Tryd.sizeOf0
  v0 := Tryd.zeroValue0
  t2 := Tryd.underlying2
  a2 := Tryd.isAgg2
  z2 := Tryd.sizeOf2
  v2 := Tryd.zeroValue2
  t3 := Tryd.underlying3
  a3 := Tryd.isAgg3
  z3 := Tryd.sizeOf3
  v3 := Tryd.zeroValue3
  t4 := Tryd.underlying4
  a4 := Tryd.isAgg4
  z4 := Tryd.sizeOf4
  v4 := Tryd.zeroValue4
  t5 := Tryd.underlying5
  a5 := Tryd.isAgg5
  z5 := Tryd.sizeOf5
  v5 := Tryd.zeroValue5
  t9 := Tryd.underlying9
  a9 := Tryd.isAgg9
  z9 := Tryd.sizeOf9
  v9 := Tryd.zeroValue9
  t20 := Tryd.underlying20
  a20 := Tryd.isAgg20
  z20 := Tryd.sizeOf20
  v20 := Tryd.zeroValue20
  t37 := Tryd.underlying49
  a37 := Tryd.isAgg49
  z37 := Tryd.sizeOf49
  v37 := Tryd.zeroValue49
  t46 := Tryd.underlying98
  a46 := Tryd.isAgg98
  z46 := Tryd.sizeOf98
  v46 := Tryd.zeroValue98
  t51 := Tryd.underlying108
  a51 := Tryd.isAgg108
  z51 := Tryd.sizeOf108
  v51 := Tryd.zeroValue108
  t53 := Tryd.underlying92
  a53 := Tryd.isAgg92
  z53 := Tryd.sizeOf92
  v53 := Tryd.zeroValue92
  t171 := Tryd.underlying91
  a171 := Tryd.isAgg91
  z171 := Tryd.sizeOf91
  v171 := Tryd.zeroValue91
  t173 := Tryd.underlying95
  a173 := Tryd.isAgg95
  z173 := Tryd.sizeOf95
  v173 := Tryd.zeroValue95
  t212 := Tryd.underlying107
  a212 := Tryd.isAgg107
  z212 := Tryd.sizeOf107
  v212 := Tryd.zeroValue107
  t213 := Tryd.underlying109
  a213 := Tryd.isAgg109
  z213 := Tryd.sizeOf109
  t232 := Tryd.underlying128
  a232 := Tryd.isAgg128
  z232 := Tryd.sizeOf128
  v232 := Tryd.zeroValue128
  t233 := Tryd.underlying129
  a233 := Tryd.isAgg129
  z233 := Tryd.sizeOf129
  v233 := Tryd.zeroValue129
  g17 := by kernel_rfl
  g18 := by kernel_rfl
  g19 := by kernel_rfl
  i0 := by kernel_rfl
  i2 := by kernel_rfl
  i3 := by kernel_rfl
  i4 := by kernel_rfl
  i5 := by kernel_rfl
  i9 := by kernel_rfl
  i20 := by kernel_rfl
  i37 := by kernel_rfl
  i46 := by kernel_rfl
  i51 := by kernel_rfl
  i53 := by kernel_rfl
  i171 := by kernel_rfl
  i173 := by kernel_rfl
  i212 := by kernel_rfl
  i232 := by kernel_rfl
  i233 := by kernel_rfl
  m17 := by kernel_rfl
  m18 := by kernel_rfl
  m19 := by kernel_rfl }
def Tryd.laysC172_ren : Go.Shelf.Ren := ⟨fun | 172 => 40 | 244 => 47 | 245 => 48 | 247 => 60 | 279 => 61 | 280 => 62 | 281 => 63 | 282 => 64 | 287 => 75 | 316 => 76 | 171 => 20 | 205 => 77 | 321 => 81 | 322 => 82 | 243 => 36 | 246 => 44 | 283 => 49 | 284 => 50 | 285 => 51 | 286 => 52 | 129 => 66 | 317 => 65 | 318 => 67 | 319 => 68 | 320 => 69 | 337 => 78 | 338 => 79 | n => n, fun | 9 => 9 | 3 => 3 | 75 => 55 | 76 => 57 | 4 => 4 | 5 => 5 | 167 => 100 | 37 => 49 | 0 => 0 | 85 => 101 | 2 => 2 | 168 => 103 | 53 => 92 | 175 => 116 | 46 => 98 | 210 => 120 | 127 => 80 | 145 => 127 | 143 => 125 | 21 => 21 | 171 => 91 | 173 => 95 | 212 => 107 | 51 => 108 | 20 => 20 | 213 => 109 | 232 => 128 | 233 => 129 | 80 => 60 | n => n, fun | 15 => 2 | 16 => 3 | 17 => 1 | 18 => 4 | 19 => 5 | n => n⟩
theorem Tryd.laysC172 : Go.Proofs.LaysC.n172 Tryd.prog Tryd.laysC172_ren := {
  mixed := by kernel_rfl
  f129 := Tryd.func66.trans (congrArg some (by kernel_rfl))
  f171 := Tryd.func20.trans (congrArg some (by kernel_rfl))
  f172 := Tryd.func40.trans (congrArg some (by kernel_rfl))
  f205 := Tryd.func77.trans (congrArg some (by kernel_rfl))
  f243 := Tryd.func36.trans (congrArg some (by kernel_rfl))
  f244 := Tryd.func47.trans (congrArg some (by kernel_rfl))
  f245 := Tryd.func48.trans (congrArg some (by kernel_rfl))
  f246 := Tryd.func44.trans (congrArg some (by kernel_rfl))
  f247 := Tryd.func60.trans (congrArg some (by kernel_rfl))
  f279 := Tryd.func61.trans (congrArg some (by kernel_rfl))
  f280 := Tryd.func62.trans (congrArg some (by kernel_rfl))
  f281 := Tryd.func63.trans (congrArg some (by kernel_rfl))
  f282 := Tryd.func64.trans (congrArg some (by kernel_rfl))
  f283 := Tryd.func49.trans (congrArg some (by kernel_rfl))
  f284 := Tryd.func50.trans (congrArg some (by kernel_rfl))
  f285 := Tryd.func51.trans (congrArg some (by kernel_rfl))
  f286 := Tryd.func52.trans (congrArg some (by kernel_rfl))
  f287 := Tryd.func75.trans (congrArg some (by kernel_rfl))
  f316 := Tryd.func76.trans (congrArg some (by kernel_rfl))
  f317 := Tryd.func65.trans (congrArg some (by kernel_rfl))
  f318 := Tryd.func67.trans (congrArg some (by kernel_rfl))
  f319 := Tryd.func68.trans (congrArg some (by kernel_rfl))
  f320 := Tryd.func69.trans (congrArg some (by kernel_rfl))
  f321 := Tryd.func81.trans (congrArg some (by kernel_rfl))
  f322 := Tryd.func82.trans (congrArg some (by kernel_rfl))
  f337 := Tryd.func78.trans (congrArg some (by kernel_rfl))
  f338 := Tryd.func79.trans (congrArg some (by kernel_rfl))
  t0 := Tryd.underlying0
  a0 := Tryd.isAgg0
  z0 := Tryd.sizeOf0
  v0 := Tryd.zeroValue0
  t2 := Tryd.underlying2
  a2 := Tryd.isAgg2
  z2 := Tryd.sizeOf2
  v2 := Tryd.zeroValue2
  t3 := Tryd.underlying3
  a3 := Tryd.isAgg3
  z3 := Tryd.sizeOf3
  v3 := Tryd.zeroValue3
  t4 := Tryd.underlying4
  a4 := Tryd.isAgg4
  z4 := Tryd.sizeOf4
  v4 := Tryd.zeroValue4
  t5 := Tryd.underlying5
  a5 := Tryd.isAgg5
  z5 := Tryd.sizeOf5
  v5 := Tryd.zeroValue5
  t9 := Tryd.underlying9
  a9 := Tryd.isAgg9
  z9 := Tryd.sizeOf9
  v9 := Tryd.zeroValue9
  t20 := Tryd.underlying20
  a20 := Tryd.isAgg20
  z20 := Tryd.sizeOf20
  v20 := Tryd.zeroValue20
  t21 := Tryd.underlying21
  a21 := Tryd.isAgg21
  z21 := Tryd.sizeOf21
  v21 := Tryd.zeroValue21
  t37 := Tryd.underlying49
  a37 := Tryd.isAgg49
  z37 := Tryd.sizeOf49
  v37 := Tryd.zeroValue49
  t46 := Tryd.underlying98
  a46 := Tryd.isAgg98
  z46 := Tryd.sizeOf98
  v46 := Tryd.zeroValue98
  t51 := Tryd.underlying108
  a51 := Tryd.isAgg108
  z51 := Tryd.sizeOf108
  v51 := Tryd.zeroValue108
  t53 := Tryd.underlying92
  a53 := Tryd.isAgg92
  z53 := Tryd.sizeOf92
  v53 := Tryd.zeroValue92
  t75 := Tryd.underlying55
  a75 := Tryd.isAgg55
  z75 := Tryd.sizeOf55
  v75 := Tryd.zeroValue55
  t76 := Tryd.underlying57
  a76 := Tryd.isAgg57
  z76 := Tryd.sizeOf57
  v76 := Tryd.zeroValue57
  t85 := Tryd.underlying101
  a85 := Tryd.isAgg101
  z85 := Tryd.sizeOf101
  v85 := Tryd.zeroValue101
  t127 := Tryd.underlying80
  a127 := Tryd.isAgg80
  z127 := Tryd.sizeOf80
  v127 := Tryd.zeroValue80
  t143 := Tryd.underlying125
  a143 := Tryd.isAgg125
  z143 := Tryd.sizeOf125
  v143 := Tryd.zeroValue125
  t145 := Tryd.underlying127
  a145 := Tryd.isAgg127
  z145 := Tryd.sizeOf127
  v145 := Tryd.zeroValue127
  t167 := Tryd.underlying100
  a167 := Tryd.isAgg100
  z167 := Tryd.sizeOf100
  v167 := Tryd.zeroValue100
  t168 := Tryd.underlying103
  a168 := Tryd.isAgg103
  z168 := Tryd.sizeOf103
  v168 := Tryd.zeroValue103
  t171 := Tryd.underlying91
  a171 := Tryd.isAgg91
  z171 := Tryd.sizeOf91
  v171 := Tryd.zeroValue91
  t173 := Tryd.underlying95
  a173 := Tryd.isAgg95
  z173 := Tryd.sizeOf95
  v173 := Tryd.zeroValue95
  t175 := Tryd.underlying116
  a175 := Tryd.isAgg116
  z175 := Tryd.sizeOf116
  v175 := Tryd.zeroValue116
  t210 := Tryd.underlying120
  a210 := Tryd.isAgg120
  z210 := Tryd.sizeOf120
  v210 := Tryd.zeroValue120
  t212 := Tryd.underlying107
  a212 := Tryd.isAgg107
  z212 := Tryd.sizeOf107
  v212 := Tryd.zeroValue107
  t213 := Tryd.underlying109
  a213 := Tryd.isAgg109
  z213 := Tryd.sizeOf109
  t232 := Tryd.underlying128
  a232 := Tryd.isAgg128
  z232 := Tryd.sizeOf128
  v232 := Tryd.zeroValue128
  t233 := Tryd.underlying129
  a233 := Tryd.isAgg129
  z233 := Tryd.sizeOf129
  v233 := Tryd.zeroValue129
  g15 := by kernel_rfl
  g16 := by kernel_rfl
  g17 := by kernel_rfl
  g18 := by kernel_rfl
  g19 := by kernel_rfl
  t80 := Tryd.underlying60
  a80 := Tryd.isAgg60
  z80 := Tryd.sizeOf60
  v80 := Tryd.zeroValue60
  i0 := by kernel_rfl
  i2 := by kernel_rfl
  i3 := by kernel_rfl
  i4 := by kernel_rfl
  i5 := by kernel_rfl
  i9 := by kernel_rfl
  i20 := by kernel_rfl
  i21 := by kernel_rfl
  i37 := by kernel_rfl
  i46 := by kernel_rfl
  i51 := by kernel_rfl
  i53 := by kernel_rfl
  i75 := by kernel_rfl
  i76 := by kernel_rfl
  i80 := by kernel_rfl
  i85 := by kernel_rfl
  i127 := by kernel_rfl
  i143 := by kernel_rfl
  i145 := by kernel_rfl
  i167 := by kernel_rfl
  i168 := by kernel_rfl
  i171 := by kernel_rfl
  i173 := by kernel_rfl
  i175 := by kernel_rfl
  i210 := by kernel_rfl
  i212 := by kernel_rfl
  i232 := by kernel_rfl
  i233 := by kernel_rfl
  m15 := by kernel_rfl
  m16 := by kernel_rfl
  m17 := by kernel_rfl
  m18 := by kernel_rfl
  m19 := by kernel_rfl
  c0 := by kernel_rfl
  c2 := by kernel_rfl
  c3 := by kernel_rfl
  c4 := by kernel_rfl
  c5 := by kernel_rfl
  c9 := by kernel_rfl
  c20 := by kernel_rfl
  c21 := by kernel_rfl
  c37 := by kernel_rfl
  c46 := by kernel_rfl
  c51 := by kernel_rfl
  c53 := by kernel_rfl
  c75 := by kernel_rfl
  c76 := by kernel_rfl
  c80 := by kernel_rfl
  c85 := by kernel_rfl
  c127 := by kernel_rfl
  c143 := by kernel_rfl
  c145 := by kernel_rfl
  c167 := by kernel_rfl
  c168 := by kernel_rfl
  c171 := by kernel_rfl
  c173 := by kernel_rfl
  c175 := by kernel_rfl
  c210 := by kernel_rfl
  c212 := by kernel_rfl
  c213 := by kernel_rfl
  c232 := by kernel_rfl
  c233 := by kernel_rfl }
end Go.Proofs
namespace Go.Vc
open Go.Proofs Go.RowKit Go.Shelf
set_option maxHeartbeats 1000000 in
set_option maxRecDepth 100000 in
theorem copyCheck : CopyCheck Tryd.prog 35 51 where
  callable := by kernel_rfl
  fresh := by
    intro b T w n hn h0 hsh hlies hfz
    obtain ⟨j, hj, hjs⟩ := Option.map_eq_some_iff.1 (show (Tryd.prog.info? 51).map (·.size) = some 2 by kernel_rfl)
    go_enter Tryd.func35, Tryd.ntmps35
    go_wp2
    rw [Lib.run_to_unsafe w ⟨b, 0, none⟩ Tryd.underlying48 Tryd.underlying85 hj (by rw [hjs]; decide) hsh hn]
    simp only [Result.andThen]
    rw [Oper.upon_value]
    go_wp2
    rw [run_callFunc_extern Tryd.func43 (by kernel_rfl) (by kernel_rfl) (by kernel_rfl) (e := Extern.AbiNoEscape.same) (by kernel_rfl)]
    rw [Lib.run_noEscape]
    simp only [Result.andThen]
    rw [Oper.upon_value]
    go_wp2
    rw [Lib.run_from_unsafe w ⟨b, 0, none⟩ Tryd.underlying85 Tryd.underlying48 hj hsh hlies]
    simp only [Result.andThen]
    rw [Oper.upon_value]
    go_wp2
    go_end0
    exact ⟨rfl, rfl⟩
  used := by
    intro b w h0
    obtain ⟨j, hj, _⟩ := Option.map_eq_some_iff.1 (show (Tryd.prog.info? 51).map (·.size) = some 2 by kernel_rfl)
    go_enter Tryd.func35, Tryd.ntmps35
    go_wp2
    rw [Lib.run_neq_ptr_same w _ Tryd.underlying48 hj]
    go_wp2
    go_end0
    exact ⟨rfl, rfl⟩
/-- a function of the library's that reads what the program laid -/
theorem PFun.libG {P : Program} {f : FuncId} {args : List V} {v : V} {vals : List Value} (hcl : callable P f = true) (hargs : ∀ μ ow w l, RepAll μ ow w args l → l = vals)
    (h : ∀ w, Orig w → Calls P f vals.toArray w fun e w' => ∃ x, e = .returned x ∧ (∀ μ ow, Rep μ ow w' v x) ∧ Below w.heap.size w w') : PFun P f args v := by
  intro σ
  refine ⟨hcl, fun μ w l hs hr => ?_⟩
  obtain rfl := hargs _ _ _ _ hr
  obtain ⟨b, ho, _, hb⟩ := hs.globHere
  refine (h w (Orig.keep (fun i hi => (hb i hi).2) ho)).mono ?_
  rintro e w' ⟨x, rfl, hx, hb⟩
  exact ⟨v, σ, μ, x, rfl, ⟨rfl, rfl⟩, MuLe.refl μ, hs.below hb, hx _ _⟩
theorem itoaN_c (n : Int) (h0 : -9223372036854775808 ≤ n) (h1 : n ≤ 9223372036854775807) : PFun Tryd.prog 20 [vI n] (.str (Lib.itoa n)) := by
  refine PFun.libG (vals := [.int .i64 n]) (by kernel_rfl) (fun μ ow w l h => ?_) fun w hO => ?_
  · simpa [RepAll, Rep] using h
  · refine (Any.strconv_Itoa Tryd.laysM171 n h0 h1 w hO.1).mono ?_
    rintro e w' ⟨rfl, k, os, rfl⟩
    exact ⟨_, rfl, fun _ _ => by simp [Rep], Lib.below_grow _ w (Nat.le_refl _) k os⟩
def atoiV (s : List UInt8) : V := match Lib.atoiAll s with
  | .ok k => .tup [vI k, .niliface]
  | e => .tup [vI (if e = .range then Lib.atoiSat s else 0), .iface 103 .undef]
theorem atoiN_c (s : List UInt8) (hl : s.length ≤ 1000000000) : PFun Tryd.prog 40 [.str s] (atoiV s) := by
  have hsz : (⟨s.toArray⟩ : ByteArray).size = s.length := by simp [ByteArray.size]
  refine PFun.libG (vals := [.string ⟨s.toArray⟩]) (by kernel_rfl) (fun μ ow w l h => ?_) fun w hO => ?_
  · simpa [RepAll, Rep] using h
  · unfold atoiV
    cases h : Lib.atoiAll s
    · rename_i k
      refine (Any.strconv_Atoi_ok Tryd.laysC172 ⟨s.toArray⟩ (by omega) k (by simpa using h) w).mono ?_
      rintro e w' ⟨rfl, hw⟩
      refine ⟨_, rfl, fun _ _ => by simp [Rep, RepAll], ?_⟩
      rcases hw with rfl | ⟨t, rfl⟩
      · exact Below.refl _ _
      · exact Lib.bytesWorld_below _ _ _
    · obtain ⟨_, ⟨tp, p, hv⟩, _⟩ := hO
      refine (Any.strconv_Atoi_syntax_var Tryd.laysC172 ⟨s.toArray⟩ (by omega) (by simpa using h) tp p w hv).mono ?_
      rintro e w' ⟨N, rfl, _, _, hw⟩
      refine ⟨_, rfl, fun _ _ => ?_, hw⟩
      simp only [Rep]; exact ⟨_, rfl, by simp only [RepAll, Rep]; exact ⟨_, _, rfl, rfl, _, _, rfl, ⟨_, rfl, trivial⟩, rfl⟩⟩
    · obtain ⟨_, _, ⟨tp, p, hv⟩⟩ := hO
      refine (Any.strconv_Atoi_range_var Tryd.laysC172 ⟨s.toArray⟩ (by omega) (by simpa using h) tp p w hv).mono ?_
      rintro e w' ⟨N, rfl, _, _, hw⟩
      refine ⟨_, rfl, fun _ _ => ?_, hw⟩
      simp only [Rep]; exact ⟨_, rfl, by simp only [RepAll, Rep]; exact ⟨_, _, rfl, rfl, _, _, rfl, ⟨_, rfl, trivial⟩, rfl⟩⟩
end Go.Vc
namespace Go.Vc
open Go.Proofs
section
variable {P : Program} {n : Nat} {st : St} {Q : St → Prop} {k : List It}
theorem Go.dcall {i : VIns} {l : List VIns} {fx : VX} {xs : List VX} {f : FuncId} {caps : List V} {v : V} (hw : wantV st.s i.g = some true) (ho : i.op = .call fx xs)
    (hf : fx.ev st.s = .fn f caps) (hc : PFun P f (xs.map (·.ev st.s) ++ caps) v) (h : Go P n (.d l k) ⟨putO st.s i.dst v, st.σ⟩ Q) : Go P n (.d (i :: l) k) st Q := by
  refine T_true hw ?_
  rw [ho]
  exact ⟨f, caps, v, hf, fun σ1 _ => hc σ1, h⟩
theorem Go.dcallB {i : VIns} {l : List VIns} {fx : VX} {xs : List VX} {f : FuncId} {caps : List V} {v : V} (hw : wantV st.s i.g = some true) (ho : i.op = .call fx xs)
    (hf : fx.ev st.s = .fn f caps) (hc : ∀ σ1, SubStore st.σ σ1 → Contract P f (xs.map (·.ev st.s) ++ caps) σ1 fun r σ' => r = v ∧ σ' = σ1) (h : Go P n (.d l k) ⟨putO st.s i.dst v, st.σ⟩ Q) : Go P n (.d (i :: l) k) st Q := by
  refine T_true hw ?_
  rw [ho]
  exact ⟨f, caps, v, hf, fun σ1 h1 => hc σ1 h1, h⟩
end
def numW (w : List UInt8) : Int := match Lib.atoiAll w with
  | .ok k => k
  | _ => 0
def okW (w : List UInt8) : Bool := match Lib.atoiAll w with
  | .ok k => decide (Lib.itoa k = w)
  | _ => false
def zeroF : Fl := ⟨0, 0, 0, 0⟩
def fillR (s : List UInt8) : Fl × Bool := match splitL 32 s with
  | [a, b, c, d] => if okW a && (okW b && (okW c && okW d)) then (⟨numW a, numW b, numW c, numW d⟩, rightB ⟨numW a, numW b, numW c, numW d⟩) else (zeroF, false)
  | _ => (zeroF, false)
def fillV (s : List UInt8) : V := .tup [encF (fillR s).1, .bool (fillR s).2]
theorem idx_encS {σ : Store} {l : List (List UInt8)} {i : Nat} (h : i < l.length) : idxAV σ 1 (encS l) (vI i) = some (.rp (.str l[i])) := by
  unfold encS idxAV
  simp [h]
theorem len_encS (l : List (List UInt8)) : lenV false (encS l) = some (vI l.length) := by simp [encS, lenV]
theorem loadV_rp_str (σ : Store) (sz : Nat) (l : List UInt8) : loadV σ false sz (.rp (.str l)) = some (.str l) := rfl
theorem upd_self {σ : Store} {id : Nat} {o : Ob} (h : σ id = some o) : upd σ id o = σ := by
  funext i; unfold upd; split
  · rename_i e; rw [e, h]
  · rfl
theorem upd_ne' {σ : Store} {id j : Nat} {o : Ob} (h : j ≠ id) : upd σ id o j = σ j := by unfold upd; rw [if_neg h]
def numsV (l : List (List UInt8)) (i : Nat) : List V := (l.take i).map (fun w => vI (numW w)) ++ List.replicate (4 - i) (vI 0)
theorem numsV_len (l : List (List UInt8)) (i : Nat) (hl : l.length = 4) (hi : i ≤ 4) : (numsV l i).length = 4 := by simp [numsV]; omega
theorem numsV_set (l : List (List UInt8)) (i : Nat) (hl : l.length = 4) (hi : i < 4) : splice (numsV l i) i [vI (numW (l[i]'(by omega)))] = numsV l (i + 1) := by
  match l, hl with
  | [a, b, c, d], _ =>
    have : i = 0 ∨ i = 1 ∨ i = 2 ∨ i = 3 := by omega
    rcases this with rfl | rfl | rfl | rfl <;> simp [numsV, splice, List.replicate]
theorem splitL_part (c : UInt8) : ∀ (s w : List UInt8), w ∈ splitL c s → w.length ≤ s.length
  | [], w, h => by simp [splitL] at h; simp [h]
  | b :: s, w, h => by
    have ih := splitL_part c s
    unfold splitL at h
    split at h
    · simp only [List.mem_cons] at h
      rcases h with rfl | h
      · simp
      · have := ih w h; simp; omega
    · split at h
      · rename_i p ps hp
        simp only [List.mem_cons] at h
        rcases h with rfl | h
        · have := ih p (by rw [hp]; simp); simp; omega
        · have := ih w (by rw [hp]; simp [h]); simp; omega
      · simp only [List.mem_cons, List.not_mem_nil, or_false] at h
        subst h; simp
/-- how a word ends -/
theorem word_cases (w : List UInt8) : (∃ k, Lib.atoiAll w = .ok k ∧ numW w = k ∧ okW w = decide (Lib.itoa k = w) ∧ atoiV w = .tup [vI k, .niliface] ∧ -9223372036854775808 ≤ k ∧ k ≤ 9223372036854775807) ∨
    (okW w = false ∧ ∃ k, atoiV w = .tup [vI k, .iface 103 .undef]) := by
  cases h : Lib.atoiAll w
  · rename_i k
    exact .inl ⟨k, rfl, by simp [numW, h], by simp [okW, h], by simp [atoiV, h], (Lib.atoiAll_bounds h).1, (Lib.atoiAll_bounds h).2⟩
  · exact .inr ⟨by simp [okW, h], _, by simp only [atoiV, h]; rfl⟩
  · exact .inr ⟨by simp [okW, h], _, by simp only [atoiV, h]; rfl⟩
set_option maxRecDepth 100000 in
theorem fill_c (s : List UInt8) (hs : s.length ≤ 1000000000) : PFun Tryd.prog 25 [.str s] (fillV s) := fun σ => by
  refine Contract.of_runs Tryd.func25 e25 k25 (by simp [c25]) ?_
  refine Runs.mix 12 ?_
  (refine Runs.of_step Orc.nothing 300 ?_; simp -implicitDefEqProofs only [BB, Int.reduceEq, Int.reduceNe, Int.reduceLT, Int.reduceLE, Int.reduceGT, Int.reduceGE, Nat.reduceEqDiff, Nat.reduceAdd, Nat.reduceMul, Nat.reduceLeDiff, Nat.reduceSub, Nat.reduceLT, Nat.reduceBEq, ↓reduceIte, reduceCtorEq, ← decide_not, okind, vpre, vpure, intBin, intPre, strBin, strPre, popTo, argSlots, fldV, fldAV, subCells, idxVV, idxAAV, idxSV, sliceV, sliceSV, boundV, szIs, storeOp, storeS, setRowV, eff, extV, buildV, splice, eqSV, fitsL, eqCells, eqCell, minmaxV, capV, binBV, nilCheckV, bytesV, V.cells, V.stays, Orc.nothing, c25])
  refine effR_new fun id2 σ1 s1 a2 f2 => ?_
  simp -implicitDefEqProofs only [BB, Int.reduceEq, Int.reduceNe, Int.reduceLT, Int.reduceLE, Int.reduceGT, Int.reduceGE, Nat.reduceEqDiff, Nat.reduceAdd, Nat.reduceMul, Nat.reduceLeDiff, Nat.reduceSub, Nat.reduceLT, Nat.reduceBEq, ↓reduceIte, reduceCtorEq, ← decide_not, okind, vpre, vpure, intBin, intPre, strBin, strPre, popTo, argSlots, fldV, fldAV, subCells, idxVV, idxAAV, idxSV, sliceV, sliceSV, boundV, szIs, storeOp, storeS, setRowV, eff, extV, buildV, splice, eqSV, fitsL, eqCells, eqCell, minmaxV, capV, binBV, nilCheckV, bytesV, V.cells, V.stays]
  refine Runs.pcall rfl rfl rfl (split_c s 32 hs _) ?_
  (refine Runs.of_step Orc.nothing 300 ?_; simp -implicitDefEqProofs only [BB, Int.reduceEq, Int.reduceNe, Int.reduceLT, Int.reduceLE, Int.reduceGT, Int.reduceGE, Nat.reduceEqDiff, Nat.reduceAdd, Nat.reduceMul, Nat.reduceLeDiff, Nat.reduceSub, Nat.reduceLT, Nat.reduceBEq, ↓reduceIte, reduceCtorEq, ← decide_not, okind, vpre, vpure, intBin, intPre, strBin, strPre, popTo, argSlots, fldV, fldAV, subCells, idxVV, idxAAV, idxSV, sliceV, sliceSV, boundV, szIs, storeOp, storeS, setRowV, eff, extV, buildV, splice, eqSV, fitsL, eqCells, eqCell, minmaxV, capV, binBV, nilCheckV, bytesV, V.cells, V.stays, Orc.nothing])
  refine effR_new fun id5 σ2 s2 a5 f5 => ?_
  have n25 : id2 ≠ id5 := ne_new a2 f5
  have a2 := s2 _ _ a2
  have hss := s1.trans s2
  have z5 : σ id5 = none := s1.none f5
  have zero : ∀ (A : Ob) (B : Ob), RetV (.tup [.agg [.int .i64 0, .int .i64 0, .int .i64 0, .int .i64 0], .bool false]) (upd (upd σ2 id5 A) id2 B) fun r σ' => r = .tup [encF zeroF, .bool false] ∧ σ' = σ := fun A B => RetV.pure ((hss.updK z5).updK f2) rfl
  by_cases h4 : (splitL 32 s).length = 4
  · obtain ⟨a, b, c, d, hl⟩ : ∃ a b c d, splitL 32 s = [a, b, c, d] := by
      match h : splitL 32 s, h4 with
      | [a, b, c, d], _ => exact ⟨a, b, c, d, rfl⟩
    have hR : fillR s = if okW a && (okW b && (okW c && okW d)) then (⟨numW a, numW b, numW c, numW d⟩, rightB ⟨numW a, numW b, numW c, numW d⟩) else (zeroF, false) := by unfold fillR; rw [hl]
    have hfalse : (okW a && (okW b && (okW c && okW d))) = false → fillV s = .tup [encF zeroF, .bool false] := fun h => by unfold fillV; rw [hR, h]; rfl
    have hwl : ∀ w ∈ splitL 32 s, w.length ≤ 1000000000 := fun w hw => Nat.le_trans (splitL_part 32 s w hw) hs
    rw [hl] at hwl ⊢
    have q1 : (((4 : Nat) : Int) ≠ 4) = False := by simp
    simp -implicitDefEqProofs only [BB, Int.reduceEq, Int.reduceNe, Int.reduceLT, Int.reduceLE, Int.reduceGT, Int.reduceGE, Nat.reduceEqDiff, Nat.reduceAdd, Nat.reduceMul, Nat.reduceLeDiff, Nat.reduceSub, Nat.reduceLT, Nat.reduceBEq, ↓reduceIte, reduceCtorEq, ← decide_not, okind, vpre, vpure, intBin, intPre, strBin, strPre, popTo, argSlots, fldV, fldAV, subCells, idxVV, idxAAV, idxSV, sliceV, sliceSV, boundV, szIs, storeOp, storeS, setRowV, eff, extV, buildV, splice, eqSV, fitsL, eqCells, eqCell, minmaxV, capV, binBV, nilCheckV, bytesV, V.cells, V.stays, len_encS, q1]
    obtain ⟨l, hl4, hll⟩ : ∃ l : List (List UInt8), l.length = 4 ∧ l = [a, b, c, d] := ⟨_, rfl, rfl⟩
    have hw' : ∀ i, ∀ h : i < 4, (l[i]'(by omega)).length ≤ 1000000000 := fun i h => hwl _ (by rw [← hll]; exact List.getElem_mem _)
    rw [← hll]
    refine Runs.loop (fun m st => ∃ i : Nat, i ≤ 4 ∧ m = 4 - i ∧ st.σ = upd σ2 id5 ⟨53, 4, [.agg (numsV l i)]⟩ ∧ (∀ k, ∀ h : k < 4, k < i → okW (l[k]'(by omega)) = true) ∧ st.s 2 = .ptr id2 0 0 ∧ st.s 5 = .ptr id5 0 0 ∧ st.s 17 = encS l ∧ st.s 18 = vI 4 ∧ st.s 19 = vI i) 4 ?_ ?_
    · exact ⟨0, by omega, by omega, by rw [upd_self]; rw [a5]; rfl, fun _ _ h => by omega, rfl, rfl, rfl, rfl, rfl⟩
    · rintro m ⟨s', σ'⟩ ⟨i, hi, rfl, hσ, hall, h2, h5, h17, h18, h19⟩
      simp only at hσ h2 h5 h17 h18 h19
      subst hσ
      refine Runs.mix 20 ?_
      by_cases hlt : i < 4
      · have hlt' : ((i : Int) < 4) = True := by simp; omega
        have hidx := idx_encS (σ := upd σ2 id5 ⟨53, 4, [.agg (numsV l i)]⟩) (l := l) (i := i) (by omega)
        (refine Runs.of_step Orc.nothing 300 ?_; simp -implicitDefEqProofs only [BB, Int.reduceEq, Int.reduceNe, Int.reduceLT, Int.reduceLE, Int.reduceGT, Int.reduceGE, Nat.reduceEqDiff, Nat.reduceAdd, Nat.reduceMul, Nat.reduceLeDiff, Nat.reduceSub, Nat.reduceLT, Nat.reduceBEq, ↓reduceIte, reduceCtorEq, ← decide_not, okind, vpre, vpure, intBin, intPre, strBin, strPre, popTo, argSlots, fldV, fldAV, subCells, idxVV, idxAAV, idxSV, sliceV, sliceSV, boundV, szIs, storeOp, storeS, setRowV, eff, extV, buildV, splice, eqSV, fitsL, eqCells, eqCell, minmaxV, capV, binBV, nilCheckV, bytesV, V.cells, V.stays, Orc.nothing, h2, h5, h17, h18, h19, hlt', hidx, loadV_rp_str])
        refine Runs.pcall rfl rfl rfl (atoiN_c _ (hw' i hlt) _) ?_
        have b2 : (upd σ2 id5 ⟨53, 4, [.agg (numsV l i)]⟩) id2 = some ⟨24, 4, [.agg [vI 0, vI 0, vI 0, vI 0]]⟩ := by rw [upd_ne' n25]; exact a2
        have hbad : okW (l[i]'(by omega)) = false → (okW a && (okW b && (okW c && okW d))) = false := fun hb => by
          subst hll
          have : i = 0 ∨ i = 1 ∨ i = 2 ∨ i = 3 := by omega
          rcases this with rfl | rfl | rfl | rfl <;> simp at hb <;> simp [hb]
        rcases word_cases (l[i]'(by omega)) with ⟨k, k0, k2, hok, k3, k4, k5⟩ | ⟨hok, k, k3⟩
        case inr =>
          rw [k3]
          (refine Runs.of_step Orc.nothing 10 ?_; simp -implicitDefEqProofs only [BB, Int.reduceEq, Int.reduceNe, Int.reduceLT, Int.reduceLE, Int.reduceGT, Int.reduceGE, Nat.reduceEqDiff, Nat.reduceAdd, Nat.reduceMul, Nat.reduceLeDiff, Nat.reduceSub, Nat.reduceLT, Nat.reduceBEq, ↓reduceIte, reduceCtorEq, ← decide_not, okind, vpre, vpure, intBin, intPre, strBin, strPre, popTo, argSlots, fldV, fldAV, subCells, idxVV, idxAAV, idxSV, sliceV, sliceSV, boundV, szIs, storeOp, storeS, setRowV, eff, extV, buildV, splice, eqSV, fitsL, eqCells, eqCell, minmaxV, capV, binBV, nilCheckV, bytesV, V.cells, V.stays, s_zero, Orc.nothing, h2, h5, h17, h18, h19])
          refine Runs.nilI rfl rfl (b := false) (.inr ⟨_, _, rfl, rfl⟩) ?_
          have hb1 : (false != true) = true := rfl
          (refine Runs.of_step Orc.nothing 300 ?_; simp -implicitDefEqProofs only [BB, Int.reduceEq, Int.reduceNe, Int.reduceLT, Int.reduceLE, Int.reduceGT, Int.reduceGE, Nat.reduceEqDiff, Nat.reduceAdd, Nat.reduceMul, Nat.reduceLeDiff, Nat.reduceSub, Nat.reduceLT, Nat.reduceBEq, ↓reduceIte, reduceCtorEq, ← decide_not, okind, vpre, vpure, intBin, intPre, strBin, strPre, popTo, argSlots, fldV, fldAV, subCells, idxVV, idxAAV, idxSV, sliceV, sliceSV, boundV, szIs, storeOp, storeS, setRowV, eff, extV, buildV, splice, eqSV, fitsL, eqCells, eqCell, minmaxV, capV, binBV, nilCheckV, bytesV, V.cells, V.stays, Orc.nothing, h2, h5, h17, h18, h19, hb1, b2])
          rw [hfalse (hbad hok)]
          exact zero _ _
        rw [k3]
        (refine Runs.of_step Orc.nothing 10 ?_; simp -implicitDefEqProofs only [BB, Int.reduceEq, Int.reduceNe, Int.reduceLT, Int.reduceLE, Int.reduceGT, Int.reduceGE, Nat.reduceEqDiff, Nat.reduceAdd, Nat.reduceMul, Nat.reduceLeDiff, Nat.reduceSub, Nat.reduceLT, Nat.reduceBEq, ↓reduceIte, reduceCtorEq, ← decide_not, okind, vpre, vpure, intBin, intPre, strBin, strPre, popTo, argSlots, fldV, fldAV, subCells, idxVV, idxAAV, idxSV, sliceV, sliceSV, boundV, szIs, storeOp, storeS, setRowV, eff, extV, buildV, splice, eqSV, fitsL, eqCells, eqCell, minmaxV, capV, binBV, nilCheckV, bytesV, V.cells, V.stays, s_zero, Orc.nothing, h2, h5, h17, h18, h19])
        refine Runs.nilI rfl rfl (b := true) (.inl ⟨rfl, rfl⟩) ?_
        have hb1 : (true != true) = false := rfl
        (refine Runs.of_step Orc.nothing 300 ?_; simp -implicitDefEqProofs only [BB, Int.reduceEq, Int.reduceNe, Int.reduceLT, Int.reduceLE, Int.reduceGT, Int.reduceGE, Nat.reduceEqDiff, Nat.reduceAdd, Nat.reduceMul, Nat.reduceLeDiff, Nat.reduceSub, Nat.reduceLT, Nat.reduceBEq, ↓reduceIte, reduceCtorEq, ← decide_not, okind, vpre, vpure, intBin, intPre, strBin, strPre, popTo, argSlots, fldV, fldAV, subCells, idxVV, idxAAV, idxSV, sliceV, sliceSV, boundV, szIs, storeOp, storeS, setRowV, eff, extV, buildV, splice, eqSV, fitsL, eqCells, eqCell, minmaxV, capV, binBV, nilCheckV, bytesV, V.cells, V.stays, Orc.nothing, h2, h5, h17, h18, h19, k2, hb1])
        refine Runs.pcall rfl rfl rfl (itoaN_c k k4 k5 _) ?_
        by_cases he : Lib.itoa k = l[i]'(by omega)
        · have hne : (Lib.itoa k ≠ l[i]'(by omega)) = False := by simp [he]
          have hiA : idxAAV false 4 1 (.ptr id5 0 0) (vI i) = some (.ptr id5 0 i) := by
            simp only [idxAAV]; rw [if_pos (by simp; omega)]; simp
          have hst : storeS (upd σ2 id5 ⟨53, 4, [.agg (numsV l i)]⟩) 1 (.ptr id5 0 i) (vI k) = some (upd σ2 id5 ⟨53, 4, [.agg (numsV l (i + 1))]⟩) := by
            have hset := numsV_set l i hl4 hlt
            rw [k2] at hset
            have e : setRowV (.agg (numsV l i)) i 1 (vI k) = some (.agg (numsV l (i + 1))) := by
              have h1 := numsV_len l i hl4 hi
              unfold setRowV
              rw [if_pos ⟨rfl, rfl⟩, if_neg (by simp [V.cells, h1]), if_pos (by simp [V.cells, h1]; omega), ← hset]; rfl
            simp only [storeS, upd_same, List.getElem?_cons_zero, e, upd_upd, List.set_cons_zero]
          have r1 : inR .i64 ((i : Int) + 1) := inR_i64 (by omega) (by omega)
          (refine Runs.of_step Orc.nothing 300 ?_; simp -implicitDefEqProofs only [BB, Int.reduceEq, Int.reduceNe, Int.reduceLT, Int.reduceLE, Int.reduceGT, Int.reduceGE, Nat.reduceEqDiff, Nat.reduceAdd, Nat.reduceMul, Nat.reduceLeDiff, Nat.reduceSub, Nat.reduceLT, Nat.reduceBEq, ↓reduceIte, reduceCtorEq, ← decide_not, okind, vpre, vpure, intBin, intPre, strBin, strPre, popTo, argSlots, fldV, fldAV, subCells, idxVV, idxSV, sliceV, sliceSV, boundV, szIs, storeOp, setRowV, eff, extV, buildV, splice, eqSV, fitsL, eqCells, eqCell, minmaxV, capV, binBV, nilCheckV, bytesV, V.cells, V.stays, Orc.nothing, h2, h5, h17, h18, h19, hne, hiA, hst, r1])
          refine ⟨_, by omega, i + 1, by omega, rfl, rfl, ?_, by simp [h2, h5, h17, h18]⟩
          intro j hj hji
          rcases Nat.lt_or_ge j i with g | g
          · exact hall j hj g
          · obtain rfl : j = i := by omega
            rw [hok]; exact decide_eq_true he
        · have hne : (Lib.itoa k ≠ l[i]'(by omega)) = True := by simp [he]
          (refine Runs.of_step Orc.nothing 300 ?_; simp -implicitDefEqProofs only [BB, Int.reduceEq, Int.reduceNe, Int.reduceLT, Int.reduceLE, Int.reduceGT, Int.reduceGE, Nat.reduceEqDiff, Nat.reduceAdd, Nat.reduceMul, Nat.reduceLeDiff, Nat.reduceSub, Nat.reduceLT, Nat.reduceBEq, ↓reduceIte, reduceCtorEq, ← decide_not, okind, vpre, vpure, intBin, intPre, strBin, strPre, popTo, argSlots, fldV, fldAV, subCells, idxVV, idxAAV, idxSV, sliceV, sliceSV, boundV, szIs, storeOp, storeS, setRowV, eff, extV, buildV, splice, eqSV, fitsL, eqCells, eqCell, minmaxV, capV, binBV, nilCheckV, bytesV, V.cells, V.stays, Orc.nothing, h2, h5, h17, h18, h19, hne, b2])
          rw [hfalse ?_]
          · exact zero _ _
          · have hb : okW (l[i]'(by omega)) = false := by rw [hok]; exact decide_eq_false he
            subst hll
            have : i = 0 ∨ i = 1 ∨ i = 2 ∨ i = 3 := by omega
            rcases this with rfl | rfl | rfl | rfl <;> simp at hb <;> simp [hb]
      · have hlt' : ((i : Int) < 4) = False := by simp; omega
        obtain rfl : i = 4 := by omega
        have hn4 : numsV l 4 = [vI (numW a), vI (numW b), vI (numW c), vI (numW d)] := by rw [hll]; rfl
        have hok4 : (okW a && (okW b && (okW c && okW d))) = true := by
          subst hll
          have w0 := hall 0 (by omega) (by omega)
          have w1 := hall 1 (by omega) (by omega)
          have w2 := hall 2 (by omega) (by omega)
          have w3 := hall 3 (by omega) (by omega)
          simp at w0 w1 w2 w3
          simp [w0, w1, w2, w3]
        have hfr : fillV s = .tup [encF ⟨numW a, numW b, numW c, numW d⟩, .bool (rightB ⟨numW a, numW b, numW c, numW d⟩)] := by unfold fillV; rw [hR, hok4]; rfl
        have b2 : (upd σ2 id5 ⟨53, 4, [.agg (numsV l 4)]⟩) id2 = some ⟨24, 4, [.agg [vI 0, vI 0, vI 0, vI 0]]⟩ := by rw [upd_ne' n25]; exact a2
        rw [hfr]
        have n52 : id5 ≠ id2 := fun e => n25 e.symm
        rw [hn4] at b2 ⊢
        generalize numW a = na, numW b = nb, numW c = nc, numW d = nd at *
        have i0 : idxAAV false 4 1 (.ptr id5 0 0) (vI 0) = some (.ptr id5 0 0) := rfl
        have i1 : idxAAV false 4 1 (.ptr id5 0 0) (vI 1) = some (.ptr id5 0 1) := rfl
        have i2 : idxAAV false 4 1 (.ptr id5 0 0) (vI 2) = some (.ptr id5 0 2) := rfl
        have i3 : idxAAV false 4 1 (.ptr id5 0 0) (vI 3) = some (.ptr id5 0 3) := rfl
        (refine Runs.of_step Orc.nothing 300 ?_; simp -implicitDefEqProofs only [BB, Int.reduceEq, Int.reduceNe, Int.reduceLT, Int.reduceLE, Int.reduceGT, Int.reduceGE, Nat.reduceEqDiff, Nat.reduceAdd, Nat.reduceMul, Nat.reduceLeDiff, Nat.reduceSub, Nat.reduceLT, Nat.reduceBEq, ↓reduceIte, reduceCtorEq, ← decide_not, okind, vpre, vpure, intBin, intPre, strBin, strPre, popTo, argSlots, fldV, fldAV, subCells, idxVV, idxSV, sliceV, sliceSV, boundV, szIs, storeOp, storeS, setRowV, eff, extV, buildV, splice, eqSV, fitsL, eqCells, eqCell, minmaxV, capV, binBV, nilCheckV, bytesV, V.cells, V.stays, Orc.nothing, h2, h5, h17, h18, h19, hlt', upd_same, i0, i1, i2, i3])
        refine effR_new fun id10 σ3 s3 a3 f3 => ?_
        have n10 : id2 ≠ id10 := ne_new b2 f3
        have c2 := s3 _ _ b2
        simp -implicitDefEqProofs only [BB, Int.reduceEq, Int.reduceNe, Int.reduceLT, Int.reduceLE, Int.reduceGT, Int.reduceGE, Nat.reduceEqDiff, Nat.reduceAdd, Nat.reduceMul, Nat.reduceLeDiff, Nat.reduceSub, Nat.reduceLT, Nat.reduceBEq, ↓reduceIte, reduceCtorEq, ← decide_not, okind, vpre, vpure, intBin, intPre, strBin, strPre, popTo, argSlots, fldV, fldAV, subCells, idxVV, idxAAV, idxSV, sliceV, sliceSV, boundV, szIs, storeOp, storeS, setRowV, eff, extV, buildV, splice, eqSV, fitsL, eqCells, eqCell, minmaxV, capV, binBV, nilCheckV, bytesV, V.cells, V.stays, a3, upd_same]
        refine Go.dcall rfl rfl rfl (right_c ⟨na, nb, nc, nd⟩) ?_
        (refine Go.of_step Orc.nothing 300 _ _ ?_; simp -implicitDefEqProofs only [BB, Int.reduceEq, Int.reduceNe, Int.reduceLT, Int.reduceLE, Int.reduceGT, Int.reduceGE, Nat.reduceEqDiff, Nat.reduceAdd, Nat.reduceMul, Nat.reduceLeDiff, Nat.reduceSub, Nat.reduceLT, Nat.reduceBEq, ↓reduceIte, reduceCtorEq, ← decide_not, okind, vpre, vpure, intBin, intPre, strBin, strPre, popTo, argSlots, fldV, fldAV, subCells, idxVV, idxAAV, idxSV, sliceV, sliceSV, boundV, szIs, storeOp, storeS, setRowV, eff, extV, buildV, splice, eqSV, fitsL, eqCells, eqCell, minmaxV, capV, binBV, nilCheckV, bytesV, V.cells, V.stays, Orc.nothing, h2, upd_ne n10, c2, upd_same])
        have hsub := (hss.updK (o := ⟨53, 4, [.agg [vI na, vI nb, vI nc, vI nd]]⟩) z5)
        exact RetV.pure (((hsub.trans s3).updK (hsub.none f3)).updK f2) rfl
  · have q1 : (((splitL 32 s).length : Int) ≠ 4) = True := by simp; omega
    have hR : fillV s = .tup [encF zeroF, .bool false] := by
      have : fillR s = (zeroF, false) := by
        unfold fillR; split
        · rename_i h; rw [h] at h4; simp at h4
        · rfl
      unfold fillV; rw [this]
    simp -implicitDefEqProofs only [BB, Int.reduceEq, Int.reduceNe, Int.reduceLT, Int.reduceLE, Int.reduceGT, Int.reduceGE, Nat.reduceEqDiff, Nat.reduceAdd, Nat.reduceMul, Nat.reduceLeDiff, Nat.reduceSub, Nat.reduceLT, Nat.reduceBEq, ↓reduceIte, reduceCtorEq, ← decide_not, okind, vpre, vpure, intBin, intPre, strBin, strPre, popTo, argSlots, fldV, fldAV, subCells, idxVV, idxAAV, idxSV, sliceV, sliceSV, boundV, szIs, storeOp, storeS, setRowV, eff, extV, buildV, splice, eqSV, fitsL, eqCells, eqCell, minmaxV, capV, binBV, nilCheckV, bytesV, V.cells, V.stays, len_encS, q1, a2]
    rw [hR]
    have := zero ⟨53, 4, [.agg [.int .i64 0, .int .i64 0, .int .i64 0, .int .i64 0]]⟩ ⟨24, 4, [.agg [.int .i64 0, .int .i64 0, .int .i64 0, .int .i64 0]]⟩
    rwa [upd_self a5] at this
end Go.Vc
namespace Go.Vc
open Go.Proofs
/-- the numbers of these lines, or which line is wrong -/
def rdL : List (List UInt8) → Nat → Except Nat (List Fl)
  | [], _ => .ok []
  | [p], n => if p = [] then .ok [] else .error (n + 1)
  | p :: q :: ps, n => if (fillR p).2 then (match rdL (q :: ps) (n + 1) with
      | .ok l => .ok ((fillR p).1 :: l)
      | .error e => .error e) else .error (n + 1)
def preE (d : List Fl) : Except Nat (List Fl) → Except Nat (List Fl)
  | .ok l => .ok (d ++ l)
  | .error e => .error e
def rdV : Except Nat (List Fl) → V
  | .ok l => .tup [.sl 4 (l.map encF), vI 0, vI 0]
  | .error n => .tup [.sl 4 [], vI n, vI 1]
theorem fillV_eq (s : List UInt8) : fillV s = .tup [encF (fillR s).1, .bool (fillR s).2] := rfl
set_option maxRecDepth 100000 in
theorem read_c (s : List UInt8) (hs : s.length ≤ 1000000000) : PFun Tryd.prog 10 [.str s] (rdV (rdL (splitL 10 s) 0)) := fun σ => by
  have hf : ∀ p ∈ splitL 10 s, PFun Tryd.prog 25 [.str p] (fillV p) := fun p hp => fill_c p (Nat.le_trans (splitL_part 10 s p hp) hs)
  refine Contract.of_runs Tryd.func10 e10 k10 (by simp [c10]) ?_
  refine Runs.mix 12 ?_
  (refine Runs.of_step Orc.nothing 300 ?_; simp -implicitDefEqProofs only [BB, effR_some, effD_some, Int.reduceEq, Int.reduceNe, Int.reduceLT, Int.reduceLE, Int.reduceGT, Int.reduceGE, Nat.reduceEqDiff, Nat.reduceAdd, Nat.reduceMul, Nat.reduceLeDiff, Nat.reduceSub, Nat.reduceLT, Nat.reduceBEq, ↓reduceIte, reduceCtorEq, ← decide_not, okind, vpre, vpure, intBin, intPre, strBin, strPre, popTo, argSlots, fldV, fldAV, subCells, idxVV, idxAAV, idxSV, sliceV, sliceSV, boundV, szIs, storeOp, storeS, setRowV, eff, extV, buildV, splice, eqSV, fitsL, eqCells, eqCell, minmaxV, capV, binBV, nilCheckV, bytesV, V.cells, V.stays, Orc.nothing, c10])
  refine Runs.loop (fun m st => ∃ (u : List UInt8) (n : Nat) (d : List Fl), u.length ≤ s.length ∧ m = u.length ∧ n + u.length ≤ s.length ∧ d.length ≤ n ∧ (∀ p ∈ splitL 10 u, PFun Tryd.prog 25 [.str p] (fillV p)) ∧
    rdL (splitL 10 s) 0 = preE d (rdL (splitL 10 u) n) ∧ SubStore σ st.σ ∧ OutV σ st.σ 24 4 (st.s 2) (d.map encF) ∧ st.s 0 = .str u ∧ st.s 3 = vI n) s.length ?_ ?_
  · refine ⟨s, 0, [], by omega, rfl, by omega, by simp, hf, ?_, SubStore.refl σ, OutV.start, rfl, rfl⟩
    cases rdL (splitL 10 s) 0 <;> rfl
  · rintro m ⟨s', σ'⟩ ⟨u, n, d, hu, rfl, hn, hd, hfu, hp, hsub, hout, h0, h3⟩
    simp only at h0 h3 hsub hout
    generalize hv2 : s' 2 = v2 at *
    refine Runs.mix 12 ?_
    by_cases hnil : u = []
    · subst hnil
      have q1 : (([] : List UInt8) ≠ []) = False := by simp
      (refine Runs.of_step Orc.nothing 300 ?_; simp -implicitDefEqProofs only [BB, effR_some, effD_some, Int.reduceEq, Int.reduceNe, Int.reduceLT, Int.reduceLE, Int.reduceGT, Int.reduceGE, Nat.reduceEqDiff, Nat.reduceAdd, Nat.reduceMul, Nat.reduceLeDiff, Nat.reduceSub, Nat.reduceLT, Nat.reduceBEq, ↓reduceIte, reduceCtorEq, ← decide_not, okind, vpre, vpure, intBin, intPre, strBin, strPre, popTo, argSlots, fldV, fldAV, subCells, idxVV, idxAAV, idxSV, sliceV, sliceSV, boundV, szIs, storeOp, storeS, setRowV, eff, extV, buildV, splice, eqSV, fitsL, eqCells, eqCell, minmaxV, capV, binBV, nilCheckV, bytesV, V.cells, V.stays, Orc.nothing, h0, hv2, h3, q1])
      refine ⟨_, σ, hsub, Wk.tup (vs' := [.sl 4 (d.map encF), vI 0, vI 0]) ⟨hout.wk (SubStore.refl σ) hsub, Wk.refl hsub _, Wk.refl hsub _, trivial⟩, ?_, rfl⟩
      rw [hp]
      simp [splitL, rdL, preE, rdV]
    · have q1 : (u ≠ []) = True := by simp [hnil]
      have hul : 0 < u.length := List.length_pos_iff.2 hnil
      have r1 : inR .i64 ((n : Int) + 1) := inR_i64 (by omega) (by omega)
      (refine Runs.of_step Orc.nothing 300 ?_; simp -implicitDefEqProofs only [BB, effR_some, effD_some, Int.reduceEq, Int.reduceNe, Int.reduceLT, Int.reduceLE, Int.reduceGT, Int.reduceGE, Nat.reduceEqDiff, Nat.reduceAdd, Nat.reduceMul, Nat.reduceLeDiff, Nat.reduceSub, Nat.reduceLT, Nat.reduceBEq, ↓reduceIte, reduceCtorEq, ← decide_not, okind, vpre, vpure, intBin, intPre, strBin, strPre, popTo, argSlots, fldV, fldAV, subCells, idxVV, idxAAV, idxSV, sliceV, sliceSV, boundV, szIs, storeOp, storeS, setRowV, eff, extV, buildV, splice, eqSV, fitsL, eqCells, eqCell, minmaxV, capV, binBV, nilCheckV, bytesV, V.cells, V.stays, Orc.nothing, h0, hv2, h3, q1, r1])
      refine Runs.pcall rfl rfl rfl (cut_c u 10 (by omega) _) ?_
      unfold cutL
      rcases idx_cases 10 u with ⟨g1, g2⟩ | ⟨k, g1, g2, g3⟩
      · have hff := hfu u (by rw [g2]; simp)
        rw [fillV_eq] at hff
        rw [g1, if_pos (by omega)]
        (refine Runs.of_step Orc.nothing 300 ?_; simp -implicitDefEqProofs only [BB, effR_some, effD_some, Int.reduceEq, Int.reduceNe, Int.reduceLT, Int.reduceLE, Int.reduceGT, Int.reduceGE, Nat.reduceEqDiff, Nat.reduceAdd, Nat.reduceMul, Nat.reduceLeDiff, Nat.reduceSub, Nat.reduceLT, Nat.reduceBEq, ↓reduceIte, reduceCtorEq, ← decide_not, okind, vpre, vpure, intBin, intPre, strBin, strPre, popTo, argSlots, fldV, fldAV, subCells, idxVV, idxAAV, idxSV, sliceV, sliceSV, boundV, szIs, storeOp, storeS, setRowV, eff, extV, buildV, splice, eqSV, fitsL, eqCells, eqCell, minmaxV, capV, binBV, nilCheckV, bytesV, V.cells, V.stays, Orc.nothing, h0, hv2, h3])
        refine Runs.pcall rfl rfl rfl (hff _) ?_
        generalize hfr : fillR u = fr at *
        (refine Runs.of_step Orc.nothing 300 ?_; simp -implicitDefEqProofs only [BB, Int.reduceEq, Int.reduceNe, Int.reduceLT, Int.reduceLE, Int.reduceGT, Int.reduceGE, Nat.reduceEqDiff, Nat.reduceAdd, Nat.reduceMul, Nat.reduceLeDiff, Nat.reduceSub, Nat.reduceLT, Nat.reduceBEq, ↓reduceIte, reduceCtorEq, ← decide_not, okind, vpre, vpure, intBin, intPre, strBin, strPre, popTo, argSlots, fldV, fldAV, subCells, idxVV, idxAAV, idxSV, sliceV, sliceSV, boundV, szIs, storeOp, storeS, setRowV, eff, extV, buildV, splice, eqSV, fitsL, eqCells, eqCell, minmaxV, capV, binBV, nilCheckV, bytesV, V.cells, V.stays, Orc.nothing, h0, hv2, h3])
        refine effR_new fun id8 σ8 s8 a8 f8 => ?_
        simp -implicitDefEqProofs only [BB, Int.reduceEq, Int.reduceNe, Int.reduceLT, Int.reduceLE, Int.reduceGT, Int.reduceGE, Nat.reduceEqDiff, Nat.reduceAdd, Nat.reduceMul, Nat.reduceLeDiff, Nat.reduceSub, Nat.reduceLT, Nat.reduceBEq, ↓reduceIte, reduceCtorEq, ← decide_not, okind, vpre, vpure, intBin, intPre, strBin, strPre, popTo, argSlots, fldV, fldAV, subCells, idxVV, idxAAV, idxSV, sliceV, sliceSV, boundV, szIs, storeOp, storeS, setRowV, eff, extV, buildV, splice, eqSV, fitsL, eqCells, eqCell, minmaxV, capV, binBV, nilCheckV, bytesV, V.cells, V.stays, a8, encF, h0, hv2, h3]
        have k8 := (hsub.trans s8).updK (o := ⟨24, 4, [.agg [vI fr.1.no, vI fr.1.kind, vI fr.1.used, vI fr.1.free]]⟩) (hsub.none f8)
        refine ⟨_, σ, k8, Wk.tup (vs' := [.sl 4 [], vI (n + 1), vI 1]) ⟨Wk.nils 4, Wk.refl k8 _, Wk.refl k8 _, trivial⟩, ?_, rfl⟩
        rw [hp, g2]; simp [rdL, hnil, preE, rdV]
      · have hff := hfu (u.take k) (by rw [g3]; simp)
        rw [fillV_eq] at hff
        rw [g1, if_neg (by omega)]
        have e3 : ((k : Int)).toNat = k := by simp
        rw [e3]
        (refine Runs.of_step Orc.nothing 300 ?_; simp -implicitDefEqProofs only [BB, effR_some, effD_some, Int.reduceEq, Int.reduceNe, Int.reduceLT, Int.reduceLE, Int.reduceGT, Int.reduceGE, Nat.reduceEqDiff, Nat.reduceAdd, Nat.reduceMul, Nat.reduceLeDiff, Nat.reduceSub, Nat.reduceLT, Nat.reduceBEq, ↓reduceIte, reduceCtorEq, ← decide_not, okind, vpre, vpure, intBin, intPre, strBin, strPre, popTo, argSlots, fldV, fldAV, subCells, idxVV, idxAAV, idxSV, sliceV, sliceSV, boundV, szIs, storeOp, storeS, setRowV, eff, extV, buildV, splice, eqSV, fitsL, eqCells, eqCell, minmaxV, capV, binBV, nilCheckV, bytesV, V.cells, V.stays, Orc.nothing, h0, hv2, h3])
        refine Runs.pcall rfl rfl rfl (hff _) ?_
        generalize hfr : fillR (u.take k) = fr at *
        obtain ⟨f, ok⟩ := fr
        have hne := splitL_ne 10 (u.drop (k + 1))
        have hstep : rdL (splitL 10 u) n = if ok then (match rdL (splitL 10 (u.drop (k + 1))) (n + 1) with
            | .ok l => .ok (f :: l)
            | .error e => .error e) else .error (n + 1) := by
          rw [g3]
          cases h : splitL 10 (u.drop (k + 1)) with
          | nil => exact absurd h hne
          | cons q ps => simp only [rdL, hfr]
        cases ok
        · (refine Runs.of_step Orc.nothing 300 ?_; simp -implicitDefEqProofs only [BB, Int.reduceEq, Int.reduceNe, Int.reduceLT, Int.reduceLE, Int.reduceGT, Int.reduceGE, Nat.reduceEqDiff, Nat.reduceAdd, Nat.reduceMul, Nat.reduceLeDiff, Nat.reduceSub, Nat.reduceLT, Nat.reduceBEq, ↓reduceIte, reduceCtorEq, ← decide_not, okind, vpre, vpure, intBin, intPre, strBin, strPre, popTo, argSlots, fldV, fldAV, subCells, idxVV, idxAAV, idxSV, sliceV, sliceSV, boundV, szIs, storeOp, storeS, setRowV, eff, extV, buildV, splice, eqSV, fitsL, eqCells, eqCell, minmaxV, capV, binBV, nilCheckV, bytesV, V.cells, V.stays, Orc.nothing, h0, hv2, h3])
          refine effR_new fun id8 σ8 s8 a8 f8 => ?_
          simp -implicitDefEqProofs only [BB, Int.reduceEq, Int.reduceNe, Int.reduceLT, Int.reduceLE, Int.reduceGT, Int.reduceGE, Nat.reduceEqDiff, Nat.reduceAdd, Nat.reduceMul, Nat.reduceLeDiff, Nat.reduceSub, Nat.reduceLT, Nat.reduceBEq, ↓reduceIte, reduceCtorEq, ← decide_not, okind, vpre, vpure, intBin, intPre, strBin, strPre, popTo, argSlots, fldV, fldAV, subCells, idxVV, idxAAV, idxSV, sliceV, sliceSV, boundV, szIs, storeOp, storeS, setRowV, eff, extV, buildV, splice, eqSV, fitsL, eqCells, eqCell, minmaxV, capV, binBV, nilCheckV, bytesV, V.cells, V.stays, a8, encF, h0, hv2, h3]
          have k8 := (hsub.trans s8).updK (o := ⟨24, 4, [.agg [vI f.no, vI f.kind, vI f.used, vI f.free]]⟩) (hsub.none f8)
          refine ⟨_, σ, k8, Wk.tup (vs' := [.sl 4 [], vI (n + 1), vI 1]) ⟨Wk.nils 4, Wk.refl k8 _, Wk.refl k8 _, trivial⟩, ?_, rfl⟩
          rw [hp, hstep]; simp [preE, rdV]
        · (refine Runs.of_step Orc.nothing 300 ?_; simp -implicitDefEqProofs only [BB, Int.reduceEq, Int.reduceNe, Int.reduceLT, Int.reduceLE, Int.reduceGT, Int.reduceGE, Nat.reduceEqDiff, Nat.reduceAdd, Nat.reduceMul, Nat.reduceLeDiff, Nat.reduceSub, Nat.reduceLT, Nat.reduceBEq, ↓reduceIte, reduceCtorEq, ← decide_not, okind, vpre, vpure, intBin, intPre, strBin, strPre, popTo, argSlots, fldV, fldAV, subCells, idxVV, idxAAV, idxSV, sliceV, sliceSV, boundV, szIs, storeOp, storeS, setRowV, eff, extV, buildV, splice, eqSV, fitsL, eqCells, eqCell, minmaxV, capV, binBV, nilCheckV, bytesV, V.cells, V.stays, Orc.nothing, h0, hv2, h3])
          refine effR_new fun id8 σ8 s8 a8 f8 => ?_
          simp -implicitDefEqProofs only [BB, Int.reduceEq, Int.reduceNe, Int.reduceLT, Int.reduceLE, Int.reduceGT, Int.reduceGE, Nat.reduceEqDiff, Nat.reduceAdd, Nat.reduceMul, Nat.reduceLeDiff, Nat.reduceSub, Nat.reduceLT, Nat.reduceBEq, ↓reduceIte, reduceCtorEq, ← decide_not, okind, vpre, vpure, intBin, intPre, strBin, strPre, popTo, argSlots, fldV, fldAV, subCells, idxVV, idxAAV, idxSV, sliceV, sliceSV, boundV, szIs, storeOp, storeS, setRowV, eff, extV, buildV, splice, eqSV, fitsL, eqCells, eqCell, minmaxV, capV, binBV, nilCheckV, bytesV, V.cells, V.stays, a8, encF, h0, hv2, h3]
          have k8 := (hsub.trans s8).updK (o := ⟨24, 4, [.agg [vI f.no, vI f.kind, vI f.used, vI f.free]]⟩) (hsub.none f8)
          refine effR_new fun id1 σ1 s1 a1 f1 => ?_
          obtain ⟨idA, hda, hdel⟩ := hout.dst ((s8.updK f8).trans s1)
          have s2 := k8.trans s1
          have hb2 : (d.length + 1) * 33 ≤ 140737488355328 := by omega
          simp -implicitDefEqProofs only [BB, Int.reduceEq, Int.reduceNe, Int.reduceLT, Int.reduceLE, Int.reduceGT, Int.reduceGE, Nat.reduceEqDiff, Nat.reduceAdd, Nat.reduceMul, Nat.reduceLeDiff, Nat.reduceSub, Nat.reduceLT, Nat.reduceBEq, ↓reduceIte, reduceCtorEq, ← decide_not, okind, vpre, vpure, intBin, intPre, strBin, strPre, popTo, argSlots, fldV, fldAV, subCells, idxVV, idxAAV, idxSV, sliceV, sliceSV, boundV, szIs, storeOp, storeS, setRowV, eff, extV, buildV, splice, eqSV, fitsL, eqCells, eqCell, minmaxV, capV, binBV, nilCheckV, bytesV, V.cells, V.stays, hda, srcOne a1, List.length_map, hb2, h0, h3]
          refine effR_put fun id2 σ2 s3 a2 f2 => ?_
          have s4 := (hdel σ (SubStore.refl _) σ1 s2).trans s3
          have hdl : (u.drop (k + 1)).length = u.length - (k + 1) := by simp
          simp -implicitDefEqProofs only [BB, Int.reduceEq, Int.reduceNe, Int.reduceLT, Int.reduceLE, Int.reduceGT, Int.reduceGE, Nat.reduceEqDiff, Nat.reduceAdd, Nat.reduceMul, Nat.reduceLeDiff, Nat.reduceSub, Nat.reduceLT, Nat.reduceBEq, ↓reduceIte, reduceCtorEq, ← decide_not, okind, vpre, vpure, intBin, intPre, strBin, strPre, popTo, argSlots, fldV, fldAV, subCells, idxVV, idxAAV, idxSV, sliceV, sliceSV, boundV, szIs, storeOp, storeS, setRowV, eff, extV, buildV, splice, eqSV, fitsL, eqCells, eqCell, minmaxV, capV, binBV, nilCheckV, bytesV, V.cells, V.stays, h0, h3]
          refine ⟨_, ?_, u.drop (k + 1), n + 1, d ++ [f], by omega, rfl, by omega, by simp; omega, fun p hp => hfu p (by rw [g3]; exact List.mem_cons_of_mem _ hp), ?_, s4, ?_, rfl, by simp⟩
          · omega
          · rw [hp, hstep]; cases rdL (splitL 10 (u.drop (k + 1))) (n + 1) <;> simp [preE]
          · exact OutV.new (by simp) (by rw [a2]; simp [encF]) (s2.none f2)
end Go.Vc
namespace Go.Vc
open Go.Proofs
structure Fg where
  a : Int
  b : Int
  c : Int
  d : Int
  at' : Int
  f : Int
  h : Int
def encG (x : Fg) : V := .agg [vI x.a, vI x.b, vI x.c, vI x.d, vI x.at', vI x.f, vI x.h]
def encGs (l : List Fg) : V := .sl 7 (l.map encG)
structure Pg where
  no : Int
  kind : Int
  s0 : List Fg
  s1 : List Fg
  s2 : List Fg
def encP (p : Pg) : V := .agg [vI p.no, vI p.kind, encGs p.s0, encGs p.s1, encGs p.s2]
def Pg.sl (p : Pg) : Nat → List Fg
  | 0 => p.s0
  | 1 => p.s1
  | 2 => p.s2
  | _ => []
def Pg.flat (p : Pg) : Nat → List Fg
  | 0 => []
  | i + 1 => p.flat i ++ p.sl i
def yG (l : List Fg) : List (List V) := l.map fun t => [encG t]
theorem idx_encGs {σ : Store} {l : List Fg} {i : Nat} (h : i < l.length) : idxAV σ 7 (encGs l) (vI i) = some (.rp (encG l[i])) := by
  unfold encGs idxAV
  simp [h]
theorem len_encGs (l : List Fg) : lenV false (encGs l) = some (vI l.length) := by simp [encGs, lenV]
theorem loadV_rp_G (σ : Store) (x : Fg) : loadV σ true 7 (.rp (encG x)) = some (encG x) := rfl
theorem loadV_rp_Gs (σ : Store) (l : List Fg) : loadV σ false 1 (.rp (encGs l)) = some (encGs l) := rfl
theorem pg_sl (p : Pg) {i : Nat} (h : i < 3) : idxVV false 3 1 (.agg [encGs p.s0, encGs p.s1, encGs p.s2]) (vI i) = some (encGs (p.sl i)) := by
  have : i = 0 ∨ i = 1 ∨ i = 2 := by omega
  rcases this with rfl | rfl | rfl <;> rfl
theorem encGs_cells (l : List Fg) : (encGs l).cells = [encGs l] := rfl
theorem encGs_stays (l : List Fg) : (encGs l).stays = true := rfl
set_option maxRecDepth 100000 in
theorem frags_iter (p : Pg) (hs : ∀ i, (p.sl i).length ≤ 1000000) : Iter Tryd.prog 41 [.rp (encP p)] (yG (p.flat 3)) := by
  refine ⟨k41, fun idl J Jx σ0 hy hJ => ?_⟩
  refine (Contract.of_runs Tryd.func41 e41 k41 (by simp [c41]) ?_).2
  refine Runs.mix 12 ?_
  (refine Runs.of_step Orc.nothing 300 ?_; simp -implicitDefEqProofs only [BB, Int.reduceEq, Int.reduceNe, Int.reduceLT, Int.reduceLE, Int.reduceGT, Int.reduceGE, Nat.reduceEqDiff, Nat.reduceAdd, Nat.reduceMul, Nat.reduceLeDiff, Nat.reduceSub, Nat.reduceLT, Nat.reduceBEq, ↓reduceIte, reduceCtorEq, ← decide_not, okind, vpre, vpure, intBin, intPre, strBin, strPre, popTo, argSlots, fldV, fldAV, subCells, idxVV, idxAAV, idxSV, sliceV, sliceSV, boundV, szIs, storeOp, storeS, setRowV, eff, extV, buildV, splice, eqSV, fitsL, eqCells, eqCell, minmaxV, capV, binBV, nilCheckV, bytesV, Orc.nothing, c41, encP, V.cells_agg, V.cells_int, V.cells_nils, V.cells_own, V.cells_sl, V.cells_str, V.cells_bool, V.cells_fn, V.cells_ptr, V.cells_rp, V.stays_agg, V.stays_int, V.stays_nils, V.stays_own, V.stays_sl, V.stays_str, V.stays_bool, V.stays_fn, V.stays_ptr, V.stays_rp, encGs_cells, encGs_stays, loadV_rp_Gs])
  refine Runs.loop (fun m st => ∃ (i : Nat) (σJ : Store), i ≤ 3 ∧ m = 3 - i ∧ J (yG (p.flat i)) σJ ∧ SubStore σJ st.σ ∧
    st.s 0 = .yl idl ∧ st.s 13 = .agg [encGs p.s0, encGs p.s1, encGs p.s2] ∧ st.s 14 = vI i) 3 ?_ ?_
  · exact ⟨0, σ0, by omega, by omega, hJ, SubStore.refl _, rfl, rfl, rfl⟩
  · rintro m ⟨s', σ'⟩ ⟨i, σJ, hi, rfl, hJp, hsub, h0, h13, h14⟩
    simp only at hsub h0 h13 h14
    refine Runs.mix 20 ?_
    by_cases hlt : i < 3
    · have hlt' : ((i : Int) < 3) = True := by simp; omega
      have hpg := pg_sl p hlt
      have hsl := hs i
      have hfl : p.flat (i + 1) = p.flat i ++ p.sl i := rfl
      have hpre : ∃ post, yG (p.flat 3) = yG (p.flat (i + 1)) ++ yG post := by
        have : i = 0 ∨ i = 1 ∨ i = 2 := by omega
        rcases this with rfl | rfl | rfl
        · exact ⟨p.s1 ++ p.s2, by simp [Pg.flat, Pg.sl, yG]⟩
        · exact ⟨p.s2, by simp [Pg.flat, Pg.sl, yG]⟩
        · exact ⟨[], by simp [yG]⟩
      obtain ⟨post, hpost⟩ := hpre
      have r1 : inR .i64 ((i : Int) + 1) := inR_i64 (by omega) (by omega)
      rw [hfl] at hpost
      generalize hl : p.sl i = l at *
      generalize hbef : p.flat i = bef at *
      (refine Runs.of_step Orc.nothing 300 ?_; simp -implicitDefEqProofs only [BB, Int.reduceEq, Int.reduceNe, Int.reduceLT, Int.reduceLE, Int.reduceGT, Int.reduceGE, Nat.reduceEqDiff, Nat.reduceAdd, Nat.reduceMul, Nat.reduceLeDiff, Nat.reduceSub, Nat.reduceLT, Nat.reduceBEq, ↓reduceIte, reduceCtorEq, ← decide_not, okind, vpre, vpure, intBin, intPre, strBin, strPre, popTo, argSlots, fldV, fldAV, subCells, idxAAV, idxSV, sliceV, sliceSV, boundV, szIs, storeOp, storeS, setRowV, eff, extV, buildV, splice, eqSV, fitsL, eqCells, eqCell, minmaxV, capV, binBV, nilCheckV, bytesV, V.cells, V.stays, Orc.nothing, h0, h13, h14, hlt', hpg, len_encGs])
      refine Runs.loop (fun m st => ∃ (j : Nat) (σJ : Store), j ≤ l.length ∧ m = l.length - j ∧ J (yG (bef ++ l.take j)) σJ ∧ SubStore σJ st.σ ∧
        st.s 0 = .yl idl ∧ st.s 13 = .agg [encGs p.s0, encGs p.s1, encGs p.s2] ∧ st.s 14 = vI i ∧ st.s 17 = encGs l ∧ st.s 18 = vI l.length ∧ st.s 19 = vI j) l.length ?_ ?_
      · exact ⟨0, σJ, by omega, by omega, by simpa using hJp, hsub, h0, h13, h14, rfl, rfl, rfl⟩
      · rintro m ⟨s1, σ1⟩ ⟨j, σK, hj, rfl, hJk, hsubk, k0, k13, k14, k17, k18, k19⟩
        simp only at hsubk k0 k13 k14 k17 k18 k19
        refine Runs.mix 20 ?_
        by_cases hjl : j < l.length
        · have hjl' : ((j : Int) < (l.length : Int)) = True := by simp; omega
          have hidx := idx_encGs (σ := σ1) hjl
          have r2 : inR .i64 ((j : Int) + 1) := inR_i64 (by omega) (by omega)
          have htk : l.take (j + 1) = l.take j ++ [l[j]] := by rw [List.take_add_one, List.getElem?_eq_getElem hjl]; rfl
          have hxs : yG (p.flat 3) = yG (bef ++ l.take j) ++ [encG l[j]] :: yG (l.drop (j + 1) ++ post) := by
            have e : l = l.take j ++ l[j] :: l.drop (j + 1) := by
              rw [← List.drop_eq_getElem_cons hjl, List.take_append_drop]
            have e2 : yG l = yG (l.take j) ++ [encG l[j]] :: yG (l.drop (j + 1)) := by
              rw [show yG l = yG (l.take j ++ l[j] :: l.drop (j + 1)) from congrArg yG e]
              simp only [yG, List.map_append, List.map_cons]
            rw [hpost, show yG (bef ++ l) = yG bef ++ yG l by simp only [yG, List.map_append], e2, show yG (bef ++ l.take j) = yG bef ++ yG (l.take j) by simp only [yG, List.map_append], show yG (l.drop (j + 1) ++ post) = yG (l.drop (j + 1)) ++ yG post by simp only [yG, List.map_append]]
            simp only [List.append_assoc, List.cons_append]
          (refine Runs.of_step Orc.nothing 300 ?_; simp -implicitDefEqProofs only [BB, Int.reduceEq, Int.reduceNe, Int.reduceLT, Int.reduceLE, Int.reduceGT, Int.reduceGE, Nat.reduceEqDiff, Nat.reduceAdd, Nat.reduceMul, Nat.reduceLeDiff, Nat.reduceSub, Nat.reduceLT, Nat.reduceBEq, ↓reduceIte, reduceCtorEq, ← decide_not, okind, vpre, vpure, intBin, intPre, strBin, strPre, popTo, argSlots, fldV, fldAV, subCells, idxVV, idxAAV, idxSV, sliceV, sliceSV, boundV, szIs, storeOp, storeS, setRowV, eff, extV, buildV, splice, eqSV, fitsL, eqCells, eqCell, minmaxV, capV, binBV, nilCheckV, bytesV, V.cells, V.stays, Orc.nothing, k0, k13, k14, k17, k18, k19, hjl', hidx, loadV_rp_G])
          generalize l[j] = g at *
          refine effR_new fun id6 σ2 s2 a2 f2 => ?_
          simp -implicitDefEqProofs only [BB, Int.reduceEq, Int.reduceNe, Int.reduceLT, Int.reduceLE, Int.reduceGT, Int.reduceGE, Nat.reduceEqDiff, Nat.reduceAdd, Nat.reduceMul, Nat.reduceLeDiff, Nat.reduceSub, Nat.reduceLT, Nat.reduceBEq, ↓reduceIte, reduceCtorEq, ← decide_not, okind, vpre, vpure, intBin, intPre, strBin, strPre, popTo, argSlots, fldV, fldAV, subCells, idxVV, idxAAV, idxSV, sliceV, sliceSV, boundV, szIs, storeOp, storeS, setRowV, eff, extV, buildV, splice, eqSV, fitsL, eqCells, eqCell, minmaxV, capV, binBV, nilCheckV, bytesV, V.cells, V.stays, a2, encG, k0, k13, k14, k17, k18, k19]
          generalize hσ5 : upd σ2 id6 _ = σ5
          have hsub5 : SubStore σK σ5 := by rw [← hσ5]; exact (hsubk.trans s2).updK (hsubk.none f2)
          refine Runs.ycall (Post := fun b σ' => ∃ σJ', Beside σK σ5 σJ' σ' ∧ ((b = true ∧ J (yG (bef ++ l.take j) ++ [[encG g]]) σJ') ∨ (b = false ∧ Jx (yG (bef ++ l.take j) ++ [[encG g]]) σJ'))) rfl rfl rfl (hy _ [encG g] _ σK σ5 hxs hJk hsub5) ?_
          rintro b σ6 ⟨σJ', hbs, hb⟩
          rcases hb with ⟨rfl, hb⟩ | ⟨rfl, hb⟩
          · (refine Runs.of_step Orc.nothing 300 ?_; simp -implicitDefEqProofs only [BB, Int.reduceEq, Int.reduceNe, Int.reduceLT, Int.reduceLE, Int.reduceGT, Int.reduceGE, Nat.reduceEqDiff, Nat.reduceAdd, Nat.reduceMul, Nat.reduceLeDiff, Nat.reduceSub, Nat.reduceLT, Nat.reduceBEq, ↓reduceIte, reduceCtorEq, ← decide_not, okind, vpre, vpure, intBin, intPre, strBin, strPre, popTo, argSlots, fldV, fldAV, subCells, idxVV, idxAAV, idxSV, sliceV, sliceSV, boundV, szIs, storeOp, storeS, setRowV, eff, extV, buildV, splice, eqSV, fitsL, eqCells, eqCell, minmaxV, capV, binBV, nilCheckV, bytesV, V.cells, V.stays, Orc.nothing, k0, k13, k14, k17, k18, k19, r2])
            refine ⟨_, ?_, j + 1, σJ', by omega, rfl, ?_, hbs.1, by simp [k0, k13, k14, k17, k18]⟩
            · omega
            · rw [htk, ← List.append_assoc]
              show J ((bef ++ l.take j ++ [g]).map fun t => [encG t]) σJ'
              rw [List.map_append]; exact hb
          · (refine Runs.of_step Orc.nothing 300 ?_; simp -implicitDefEqProofs only [BB, Int.reduceEq, Int.reduceNe, Int.reduceLT, Int.reduceLE, Int.reduceGT, Int.reduceGE, Nat.reduceEqDiff, Nat.reduceAdd, Nat.reduceMul, Nat.reduceLeDiff, Nat.reduceSub, Nat.reduceLT, Nat.reduceBEq, ↓reduceIte, reduceCtorEq, ← decide_not, okind, vpre, vpure, intBin, intPre, strBin, strPre, popTo, argSlots, fldV, fldAV, subCells, idxVV, idxAAV, idxSV, sliceV, sliceSV, boundV, szIs, storeOp, storeS, setRowV, eff, extV, buildV, splice, eqSV, fitsL, eqCells, eqCell, minmaxV, capV, binBV, nilCheckV, bytesV, V.cells, V.stays, Orc.nothing, k0, k13, k14, k17, k18, k19])
            refine ⟨_, σJ', hbs.1, Wk.refl hbs.1 _, .inr ⟨yG (bef ++ l.take j) ++ [[encG g]], ?_, hb⟩⟩
            rw [hxs]
            exact ⟨yG (l.drop (j + 1) ++ post), by simp⟩
        · have hjl' : ((j : Int) < (l.length : Int)) = False := by simp; omega
          (refine Runs.of_step Orc.nothing 300 ?_; simp -implicitDefEqProofs only [BB, Int.reduceEq, Int.reduceNe, Int.reduceLT, Int.reduceLE, Int.reduceGT, Int.reduceGE, Nat.reduceEqDiff, Nat.reduceAdd, Nat.reduceMul, Nat.reduceLeDiff, Nat.reduceSub, Nat.reduceLT, Nat.reduceBEq, ↓reduceIte, reduceCtorEq, ← decide_not, okind, vpre, vpure, intBin, intPre, strBin, strPre, popTo, argSlots, fldV, fldAV, subCells, idxVV, idxAAV, idxSV, sliceV, sliceSV, boundV, szIs, storeOp, storeS, setRowV, eff, extV, buildV, splice, eqSV, fitsL, eqCells, eqCell, minmaxV, capV, binBV, nilCheckV, bytesV, V.cells, V.stays, Orc.nothing, k0, k13, k14, k17, k18, k19, hjl', r1])
          refine ⟨_, ?_, i + 1, σK, by omega, rfl, ?_, hsubk, by simp [k0, k13]⟩
          · omega
          · rw [hfl]; rw [List.take_of_length_le (by omega)] at hJk; exact hJk
    · have hlt' : ((i : Int) < 3) = False := by simp; omega
      obtain rfl : i = 3 := by omega
      (refine Runs.of_step Orc.nothing 300 ?_; simp -implicitDefEqProofs only [BB, Int.reduceEq, Int.reduceNe, Int.reduceLT, Int.reduceLE, Int.reduceGT, Int.reduceGE, Nat.reduceEqDiff, Nat.reduceAdd, Nat.reduceMul, Nat.reduceLeDiff, Nat.reduceSub, Nat.reduceLT, Nat.reduceBEq, ↓reduceIte, reduceCtorEq, ← decide_not, okind, vpre, vpure, intBin, intPre, strBin, strPre, popTo, argSlots, fldV, fldAV, subCells, idxVV, idxAAV, idxSV, sliceV, sliceSV, boundV, szIs, storeOp, storeS, setRowV, eff, extV, buildV, splice, eqSV, fitsL, eqCells, eqCell, minmaxV, capV, binBV, nilCheckV, bytesV, V.cells, V.stays, Orc.nothing, h0, h13, h14, hlt'])
      exact ⟨_, σJ, hsub, Wk.refl hsub _, .inl hJp⟩
end Go.Vc
namespace Go.Vc
open Go.Proofs
theorem fragsF_c (p : Pg) : PFun Tryd.prog 29 [encP p] (.fn 41 [.rp (encP p)]) := fun σ => by
  refine Contract.of_runs Tryd.func29 e29 k29 (by simp [c29]) ?_
  refine Runs.mix 4 ?_
  (refine Runs.of_step Orc.nothing 300 ?_; simp -implicitDefEqProofs only [BB, Int.reduceEq, Int.reduceNe, Int.reduceLT, Int.reduceLE, Int.reduceGT, Int.reduceGE, Nat.reduceEqDiff, Nat.reduceAdd, Nat.reduceMul, Nat.reduceLeDiff, Nat.reduceSub, Nat.reduceLT, Nat.reduceBEq, ↓reduceIte, reduceCtorEq, ← decide_not, okind, vpre, vpure, intBin, intPre, strBin, strPre, popTo, argSlots, fldV, fldAV, subCells, idxVV, idxAAV, idxSV, sliceV, sliceSV, boundV, szIs, storeOp, storeS, setRowV, eff, extV, buildV, splice, eqSV, fitsL, eqCells, eqCell, minmaxV, capV, binBV, nilCheckV, bytesV, Orc.nothing, c29, encP, V.cells_agg, V.cells_int, V.cells_nils, V.cells_own, V.cells_sl, V.cells_str, V.cells_bool, V.cells_fn, V.cells_ptr, V.cells_rp, V.stays_agg, V.stays_int, V.stays_nils, V.stays_own, V.stays_sl, V.stays_str, V.stays_bool, V.stays_fn, V.stays_ptr, V.stays_rp, encGs_cells, encGs_stays])
  refine effR_new fun id1 σ1 s1 a1 f1 => ?_
  simp -implicitDefEqProofs only [BB, Int.reduceEq, Int.reduceNe, Int.reduceLT, Int.reduceLE, Int.reduceGT, Int.reduceGE, Nat.reduceEqDiff, Nat.reduceAdd, Nat.reduceMul, Nat.reduceLeDiff, Nat.reduceSub, Nat.reduceLT, Nat.reduceBEq, ↓reduceIte, reduceCtorEq, ← decide_not, okind, vpre, vpure, intBin, intPre, strBin, strPre, popTo, argSlots, fldV, fldAV, subCells, idxVV, idxAAV, idxSV, sliceV, sliceSV, boundV, szIs, storeOp, storeS, setRowV, eff, extV, buildV, splice, eqSV, fitsL, eqCells, eqCell, minmaxV, capV, binBV, nilCheckV, bytesV, V.cells, V.stays]
  exact ⟨_, σ, s1, Wk.fn (vs' := [.rp (encP p)]) ⟨Wk.ptr s1 a1 f1, trivial⟩, rfl, rfl⟩
def maxI (a b : Int) : Int := if b > a then b else a
def useF (l : List Fg) : Int := l.foldl (fun m g => maxI m (addI [g.at', g.h])) 0
def pageR (p : Pg) (h : Int) : Fl := ⟨p.no, p.kind, useF (p.flat 3), clampI (clampI h - clampI (useF (p.flat 3)))⟩
set_option maxRecDepth 100000 in
theorem page_c (p : Pg) (h : Int) (hs : ∀ i, (p.sl i).length ≤ 1000000) : PFun Tryd.prog 14 [encP p, vI h] (encF (pageR p h)) := fun σ => by
  refine Contract.of_runs Tryd.func14 e14 k14 (by simp [c14]) ?_
  refine Runs.mix 10 ?_
  have hpc : (encP p).cells = [vI p.no, vI p.kind, encGs p.s0, encGs p.s1, encGs p.s2] := rfl
  have hps : (encP p).stays = true := rfl
  have hit := frags_iter p hs
  unfold pageR
  generalize hL : p.flat 3 = L at *
  have hfr := fragsF_c p
  obtain ⟨e, he⟩ : ∃ e, e = encP p := ⟨_, rfl⟩
  rw [← he] at hpc hps hit hfr ⊢
  have hagg : V.agg [vI p.no, vI p.kind, encGs p.s0, encGs p.s1, encGs p.s2] = e := by rw [he]; rfl
  (refine Runs.of_step Orc.nothing 300 ?_; simp -implicitDefEqProofs only [BB, Int.reduceEq, Int.reduceNe, Int.reduceLT, Int.reduceLE, Int.reduceGT, Int.reduceGE, Nat.reduceEqDiff, Nat.reduceAdd, Nat.reduceMul, Nat.reduceLeDiff, Nat.reduceSub, Nat.reduceLT, Nat.reduceBEq, ↓reduceIte, reduceCtorEq, ← decide_not, okind, vpre, vpure, intBin, intPre, strBin, strPre, popTo, argSlots, fldV, fldAV, subCells, idxVV, idxAAV, idxSV, sliceV, sliceSV, boundV, szIs, storeOp, storeS, setRowV, eff, extV, buildV, splice, eqSV, fitsL, eqCells, eqCell, minmaxV, capV, binBV, nilCheckV, bytesV, Orc.nothing, c14, V.cells_agg, V.cells_int, V.cells_nils, V.cells_own, V.cells_sl, V.cells_str, V.cells_bool, V.cells_fn, V.cells_ptr, V.cells_rp, V.stays_agg, V.stays_int, V.stays_nils, V.stays_own, V.stays_sl, V.stays_str, V.stays_bool, V.stays_fn, V.stays_ptr, V.stays_rp, hpc, hps])
  refine effR_new fun id2 σ1 s1 a2 f2 => ?_
  simp -implicitDefEqProofs only [BB, Int.reduceEq, Int.reduceNe, Int.reduceLT, Int.reduceLE, Int.reduceGT, Int.reduceGE, Nat.reduceEqDiff, Nat.reduceAdd, Nat.reduceMul, Nat.reduceLeDiff, Nat.reduceSub, Nat.reduceLT, Nat.reduceBEq, ↓reduceIte, reduceCtorEq, ← decide_not, okind, vpre, vpure, intBin, intPre, strBin, strPre, popTo, argSlots, fldV, fldAV, subCells, idxVV, idxAAV, idxSV, sliceV, sliceSV, boundV, szIs, storeOp, storeS, setRowV, eff, extV, buildV, splice, eqSV, fitsL, eqCells, eqCell, minmaxV, capV, binBV, nilCheckV, bytesV, V.cells, V.stays]
  refine effR_new fun id4 σ2 s2 a4 f4 => ?_
  simp -implicitDefEqProofs only [BB, Int.reduceEq, Int.reduceNe, Int.reduceLT, Int.reduceLE, Int.reduceGT, Int.reduceGE, Nat.reduceEqDiff, Nat.reduceAdd, Nat.reduceMul, Nat.reduceLeDiff, Nat.reduceSub, Nat.reduceLT, Nat.reduceBEq, ↓reduceIte, reduceCtorEq, ← decide_not, okind, vpre, vpure, intBin, intPre, strBin, strPre, popTo, argSlots, fldV, fldAV, subCells, idxVV, idxAAV, idxSV, sliceV, sliceSV, boundV, szIs, storeOp, storeS, setRowV, eff, extV, buildV, splice, eqSV, fitsL, eqCells, eqCell, minmaxV, capV, binBV, nilCheckV, bytesV, V.cells, V.stays]
  refine effR_new fun id5 σ3 s3 a5 f5 => ?_
  have n25 : id2 ≠ id5 := ne_new (s2 _ _ a2) f5
  have n45 : id4 ≠ id5 := ne_new a4 f5
  have n24 : id2 ≠ id4 := ne_new a2 f4
  have g2 := s3 _ _ (s2 _ _ a2)
  have g4 := s3 _ _ a4
  have hsσ : SubStore σ σ3 := (s1.trans s2).trans s3
  have z5 : σ id5 = none := (s1.trans s2).none f5
  have z4 : σ id4 = none := s1.none f4
  simp -implicitDefEqProofs only [BB, Int.reduceEq, Int.reduceNe, Int.reduceLT, Int.reduceLE, Int.reduceGT, Int.reduceGE, Nat.reduceEqDiff, Nat.reduceAdd, Nat.reduceMul, Nat.reduceLeDiff, Nat.reduceSub, Nat.reduceLT, Nat.reduceBEq, ↓reduceIte, reduceCtorEq, ← decide_not, okind, vpre, vpure, intBin, intPre, strBin, strPre, popTo, argSlots, fldV, fldAV, subCells, idxVV, idxAAV, idxSV, sliceV, sliceSV, boundV, szIs, storeOp, storeS, setRowV, eff, extV, buildV, splice, eqSV, fitsL, eqCells, eqCell, minmaxV, capV, binBV, nilCheckV, bytesV, a5, V.cells_agg, V.cells_int, V.cells_nils, V.cells_own, V.cells_sl, V.cells_str, V.cells_bool, V.cells_fn, V.cells_ptr, V.cells_rp, V.stays_agg, V.stays_int, V.stays_nils, V.stays_own, V.stays_sl, V.stays_str, V.stays_bool, V.stays_fn, V.stays_ptr, V.stays_rp, g2, upd_ne n25, hpc, hps, hagg]
  refine Runs.pcall rfl rfl rfl (hfr _) ?_
  (refine Runs.of_step Orc.nothing 300 ?_; simp -implicitDefEqProofs only [BB, effR_some, effD_some, Int.reduceEq, Int.reduceNe, Int.reduceLT, Int.reduceLE, Int.reduceGT, Int.reduceGE, Nat.reduceEqDiff, Nat.reduceAdd, Nat.reduceMul, Nat.reduceLeDiff, Nat.reduceSub, Nat.reduceLT, Nat.reduceBEq, ↓reduceIte, reduceCtorEq, ← decide_not, okind, vpre, vpure, intBin, intPre, strBin, strPre, popTo, argSlots, fldV, fldAV, subCells, idxVV, idxAAV, idxSV, sliceV, sliceSV, boundV, szIs, storeOp, storeS, setRowV, eff, extV, buildV, splice, eqSV, fitsL, eqCells, eqCell, minmaxV, capV, binBV, nilCheckV, bytesV, V.cells, V.stays, Orc.nothing])
  have uvi : V.cells (vI (useF L)) = [vI (useF L)] := rfl
  generalize hS : mix 10 _ _ = S
  have S1 : S 1 = vI h := by rw [← hS]; rfl
  have S2 : S 2 = .ptr id2 0 0 := by rw [← hS]; rfl
  have S4 : S 4 = .ptr id4 0 0 := by rw [← hS]; rfl
  have S5 : S 5 = .ptr id5 0 0 := by rw [← hS]; rfl
  have S8 : S 8 = .fn 41 [.rp e] := by rw [← hS]; rfl
  clear hS
  refine Runs.rangeF (g := .t 8) (caps := [.rp e]) S8 hit (fun x hx => ?_) [] (fun pre σJ => σJ = upd σ3 id5 ⟨3, 1, [vI (useF (L.take pre.length))]⟩) (fun _ _ _ => False) ?_ ?_ ?_ ?_ ?_
  · obtain ⟨t, _, rfl⟩ := List.mem_map.1 hx; rfl
  · rfl
  · rintro pre x post σJ σB hxs rfl hsub
    obtain ⟨t, hti, rfl⟩ : ∃ t, L[pre.length]? = some t ∧ x = [encG t] := by
      have := congrArg (·[pre.length]?) hxs
      simp only [yG, List.getElem?_map, List.getElem?_append_right (Nat.le_refl _), Nat.sub_self, List.getElem?_cons_zero, Option.map_eq_some_iff] at this
      obtain ⟨t, h1, h2⟩ := this
      exact ⟨t, h1, h2.symm⟩
    have htk : L.take (pre.length + 1) = L.take pre.length ++ [t] := by rw [List.take_add_one, hti]; rfl
    have hlen : (pre ++ [[encG t]]).length = pre.length + 1 := by simp
    have huse : useF (L.take (pre.length + 1)) = maxI (useF (L.take pre.length)) (addI [t.at', t.h]) := by rw [htk]; unfold useF; rw [List.foldl_append]; rfl
    simp only [hlen, huse]
    generalize useF (L.take pre.length) = mo at *
    have b5 := hsub _ _ (upd_same (σ := σ3) (id := id5) (o := ⟨3, 1, [vI mo]⟩))
    generalize hSS : putL S [9] [encG t] = S0
    have T5 : S0 5 = .ptr id5 0 0 := by rw [← hSS]; exact S5
    have T9 : S0 9 = encG t := by rw [← hSS]; rfl
    clear hSS
    refine Runs.mix 8 ?_
    (refine Runs.of_step Orc.nothing 300 ?_; simp -implicitDefEqProofs only [BB, Int.reduceEq, Int.reduceNe, Int.reduceLT, Int.reduceLE, Int.reduceGT, Int.reduceGE, Nat.reduceEqDiff, Nat.reduceAdd, Nat.reduceMul, Nat.reduceLeDiff, Nat.reduceSub, Nat.reduceLT, Nat.reduceBEq, ↓reduceIte, reduceCtorEq, ← decide_not, okind, vpre, vpure, intBin, intPre, strBin, strPre, popTo, argSlots, fldV, fldAV, subCells, idxVV, idxAAV, idxSV, sliceV, sliceSV, boundV, szIs, storeOp, storeS, setRowV, eff, extV, buildV, splice, eqSV, fitsL, eqCells, eqCell, minmaxV, capV, binBV, nilCheckV, bytesV, V.cells, V.stays, Orc.nothing, T5, T9])
    refine effR_new fun id6 σ6 s6 a6 f6 => ?_
    have n56 : id5 ≠ id6 := ne_new b5 f6
    simp -implicitDefEqProofs only [BB, Int.reduceEq, Int.reduceNe, Int.reduceLT, Int.reduceLE, Int.reduceGT, Int.reduceGE, Nat.reduceEqDiff, Nat.reduceAdd, Nat.reduceMul, Nat.reduceLeDiff, Nat.reduceSub, Nat.reduceLT, Nat.reduceBEq, ↓reduceIte, reduceCtorEq, ← decide_not, okind, vpre, vpure, intBin, intPre, strBin, strPre, popTo, argSlots, fldV, fldAV, subCells, idxVV, idxAAV, idxSV, sliceV, sliceSV, boundV, szIs, storeOp, storeS, setRowV, eff, extV, buildV, splice, eqSV, fitsL, eqCells, eqCell, minmaxV, capV, binBV, nilCheckV, bytesV, V.cells, V.stays, a6, encG, T5, T9]
    have c5 := s6 _ _ b5
    (refine Runs.of_step Orc.nothing 300 ?_; simp -implicitDefEqProofs only [BB, Int.reduceEq, Int.reduceNe, Int.reduceLT, Int.reduceLE, Int.reduceGT, Int.reduceGE, Nat.reduceEqDiff, Nat.reduceAdd, Nat.reduceMul, Nat.reduceLeDiff, Nat.reduceSub, Nat.reduceLT, Nat.reduceBEq, ↓reduceIte, reduceCtorEq, ← decide_not, okind, vpre, vpure, intBin, intPre, strBin, strPre, popTo, argSlots, fldV, fldAV, subCells, idxVV, idxAAV, idxSV, sliceV, sliceSV, boundV, szIs, storeOp, storeS, setRowV, eff, extV, buildV, splice, eqSV, fitsL, eqCells, eqCell, minmaxV, capV, binBV, nilCheckV, bytesV, V.cells, V.stays, Orc.nothing, T5, T9, c5, upd_ne n56, upd_same])
    refine effD_new fun id7 σ7 s7 a7 f7 => ?_
    have d5 := s7 _ _ ((upd_ne n56).trans c5)
    simp -implicitDefEqProofs only [BB, Int.reduceEq, Int.reduceNe, Int.reduceLT, Int.reduceLE, Int.reduceGT, Int.reduceGE, Nat.reduceEqDiff, Nat.reduceAdd, Nat.reduceMul, Nat.reduceLeDiff, Nat.reduceSub, Nat.reduceLT, Nat.reduceBEq, ↓reduceIte, reduceCtorEq, ← decide_not, okind, vpre, vpure, intBin, intPre, strBin, strPre, popTo, argSlots, fldV, fldAV, subCells, idxVV, idxAAV, idxSV, sliceV, sliceSV, boundV, szIs, storeOp, storeS, setRowV, eff, extV, buildV, splice, eqSV, fitsL, eqCells, eqCell, minmaxV, capV, binBV, nilCheckV, bytesV, V.cells, V.stays]
    refine Go.dcallB (v := vI (addI [t.at', t.h])) rfl rfl rfl (fun σ8 h8 => PFun.borrow (args' := [encI [t.at', t.h]])
      ⟨by have := Wk.own (nost_sub σ8) (h8 _ _ a7) (σ' := nost) rfl (off := 0) (len := 2) (by simp); exact this, trivial⟩ (add_c _ (by simp)) rfl) ?_
    (refine Go.of_step Orc.nothing 300 _ _ ?_; simp -implicitDefEqProofs only [BB, Int.reduceEq, Int.reduceNe, Int.reduceLT, Int.reduceLE, Int.reduceGT, Int.reduceGE, Nat.reduceEqDiff, Nat.reduceAdd, Nat.reduceMul, Nat.reduceLeDiff, Nat.reduceSub, Nat.reduceLT, Nat.reduceBEq, ↓reduceIte, reduceCtorEq, ← decide_not, okind, vpre, vpure, intBin, intPre, strBin, strPre, popTo, argSlots, fldV, fldAV, subCells, idxVV, idxAAV, idxSV, sliceV, sliceSV, boundV, szIs, storeOp, storeS, setRowV, eff, extV, buildV, splice, eqSV, fitsL, eqCells, eqCell, minmaxV, capV, binBV, nilCheckV, bytesV, Orc.nothing, T5, d5, V.cells_agg, V.cells_int, V.cells_nils, V.cells_own, V.cells_sl, V.cells_str, V.cells_bool, V.cells_fn, V.cells_ptr, V.cells_rp, V.stays_agg, V.stays_int, V.stays_nils, V.stays_own, V.stays_sl, V.stays_str, V.stays_bool, V.stays_fn, V.stays_ptr, V.stays_rp])
    have h7 : SubStore σB σ7 := (s6.updK f6).trans s7
    have hB : Beside (upd σ3 id5 ⟨3, 1, [vI mo]⟩) σB (upd σ3 id5 ⟨3, 1, [vI mo]⟩) σ7 := ⟨hsub.trans h7, fun i o h1 h2 => ⟨h7 _ _ h2, h1⟩⟩
    have hB2 := hB.set (o' := ⟨3, 1, [vI (maxI mo (addI [t.at', t.h]))]⟩) upd_same
    rw [upd_upd] at hB2
    exact ⟨_, hB2, rfl⟩
  · intro σ' hσ'
    have e5 : σ' id5 = some ⟨3, 1, [vI (useF L)]⟩ := by rw [hσ', yG, List.length_map, List.take_length, upd_same]
    have e2 : σ' id2 = some ⟨42, 5, [e]⟩ := by rw [hσ', upd_ne n25]; exact g2
    have e4 : σ' id4 = some ⟨24, 4, [.agg [vI 0, vI 0, vI 0, vI 0]]⟩ := by rw [hσ', upd_ne n45]; exact g4
    have k5 : SubStore σ σ' := by rw [hσ']; exact hsσ.updK z5
    generalize useF L = mo at *
    refine Runs.mix 10 ?_
    (refine Runs.of_step Orc.nothing 300 ?_; simp -implicitDefEqProofs only [BB, Int.reduceEq, Int.reduceNe, Int.reduceLT, Int.reduceLE, Int.reduceGT, Int.reduceGE, Nat.reduceEqDiff, Nat.reduceAdd, Nat.reduceMul, Nat.reduceLeDiff, Nat.reduceSub, Nat.reduceLT, Nat.reduceBEq, ↓reduceIte, reduceCtorEq, ← decide_not, okind, vpre, vpure, intBin, intPre, strBin, strPre, popTo, argSlots, fldV, fldAV, subCells, idxVV, idxAAV, idxSV, sliceV, sliceSV, boundV, szIs, storeOp, storeS, setRowV, eff, extV, buildV, splice, eqSV, fitsL, eqCells, eqCell, minmaxV, capV, binBV, nilCheckV, bytesV, Orc.nothing, S1, S2, S4, S5, e2, e4, e5, V.cells_agg, V.cells_int, V.cells_nils, V.cells_own, V.cells_sl, V.cells_str, V.cells_bool, V.cells_fn, V.cells_ptr, V.cells_rp, V.stays_agg, V.stays_int, V.stays_nils, V.stays_own, V.stays_sl, V.stays_str, V.stays_bool, V.stays_fn, V.stays_ptr, V.stays_rp, hpc, hps])
    refine Go.dcall rfl rfl rfl (sub_c h mo) ?_
    (refine Go.of_step Orc.nothing 300 _ _ ?_; simp -implicitDefEqProofs only [BB, Int.reduceEq, Int.reduceNe, Int.reduceLT, Int.reduceLE, Int.reduceGT, Int.reduceGE, Nat.reduceEqDiff, Nat.reduceAdd, Nat.reduceMul, Nat.reduceLeDiff, Nat.reduceSub, Nat.reduceLT, Nat.reduceBEq, ↓reduceIte, reduceCtorEq, ← decide_not, okind, vpre, vpure, intBin, intPre, strBin, strPre, popTo, argSlots, fldV, fldAV, subCells, idxVV, idxAAV, idxSV, sliceV, sliceSV, boundV, szIs, storeOp, storeS, setRowV, eff, extV, buildV, splice, eqSV, fitsL, eqCells, eqCell, minmaxV, capV, binBV, nilCheckV, bytesV, Orc.nothing, S4, e4, upd_same, V.cells_agg, V.cells_int, V.cells_nils, V.cells_own, V.cells_sl, V.cells_str, V.cells_bool, V.cells_fn, V.cells_ptr, V.cells_rp, V.stays_agg, V.stays_int, V.stays_nils, V.stays_own, V.stays_sl, V.stays_str, V.stays_bool, V.stays_fn, V.stays_ptr, V.stays_rp])
    exact RetV.pure (k5.updK z4) rfl
  · intro id h; cases h
  · rintro pre σ' _ h; exact h.elim
end Go.Vc
namespace Go.Vc
open Go.Proofs
structure Sm where
  pages : Int
  blank : Int
  used : Int
  free : Int
  full : Int
  empt : Int
  most : Int
  least : Int
def encM (m : Sm) : V := .agg [vI m.pages, vI m.blank, vI m.used, vI m.free, vI m.full, vI m.empt, vI m.most, vI m.least]
def putA (m : Sm) (x : Fl) : Sm := { m with pages := m.pages + 1, used := addI [m.used, x.used], free := addI [m.free, x.free] }
def putB (m : Sm) (i : Int) (x : Fl) : Sm := if m.full < 0 ∨ x.used > m.most then { m with full := i, most := x.used } else m
def putC (m : Sm) (i : Int) (x : Fl) : Sm := if m.empt < 0 ∨ x.used < m.least then { m with empt := i, least := x.used } else m
def putM (m : Sm) (i : Int) (x : Fl) : Sm := if x.kind = 3 then { putA m x with blank := m.blank + 1 } else putC (putB (putA m x) i x) i x
theorem addI_range (l : List Int) : -1099511627776 ≤ addI l ∧ addI l ≤ 1099511627776 := by
  unfold addI
  have : ∀ (l : List Int) (a : Int), (-1099511627776 ≤ a ∧ a ≤ 1099511627776) → -1099511627776 ≤ l.foldl (fun s n => clampI (s + clampI n)) a ∧ l.foldl (fun s n => clampI (s + clampI n)) a ≤ 1099511627776 := by
    intro l
    induction l with
    | nil => intro a h; exact h
    | cons x l ih => intro a h; exact ih _ (clamp_range _)
  exact this l 0 (by omega)
def asgD : List (List Nat) := [[], [], [], [], [3], [0, 0, 2], [5, 0, 2], [6, 0, 2], [7, 2, 0, 2], [1, 0, 1, 2, 3, 4, 5, 6, 7, 8], [9, 0, 1, 2, 3, 4, 5, 6, 7, 8], [10, 4, 8, 0, 1, 2, 3, 4, 5, 6, 7, 8]]
def asgV (id id5 : Nat) (i u : Int) (o1 o2 : Nat) : Nat → V
  | 0 => .ptr id 0 0
  | 1 => .ptr id 0 0
  | 2 => vI i
  | 3 => .ptr id5 0 2
  | 4 => vI u
  | 5 => .ptr id 0 0
  | 6 => .ptr id 0 0
  | 7 => .ptr id 0 o1
  | 9 => .ptr id 0 0
  | 10 => .ptr id 0 o2
  | _ => .tup []
def asgS (σ : Store) (id : Nat) (m1 m2 : Sm) : Nat → Store
  | 0 => σ
  | 1 => upd σ id ⟨46, 8, [encM m1]⟩
  | _ => upd σ id ⟨46, 8, [encM m2]⟩
theorem asgS_id5 {σ : Store} {id id5 : Nat} {m1 m2 : Sm} {o : Ob} (hne : id5 ≠ id) (h5 : σ id5 = some o) (p : Nat) : asgS σ id m1 m2 p id5 = some o := by
  unfold asgS; split
  · exact h5
  · rw [upd_ne hne]; exact h5
  · rw [upd_ne hne]; exact h5
def asgFL : List VIns := [⟨some 68, .mov (.t 0), none⟩, ⟨some 69, .mov (.t 0), none⟩, ⟨some 70, .mov (.t 1), none⟩, ⟨some 71, .fldA false 2 1 (.t 5), none⟩, ⟨some 72, .load false 1 (.t 71), none⟩, ⟨some 73, .nilCheck (.t 68), none⟩, ⟨some 74, .fldA true 0 6 (.t 73), none⟩, ⟨some 75, .fldA false 4 1 (.t 74), none⟩, ⟨none, .store 1 (.t 75) (.t 70), none⟩, ⟨some 76, .nilCheck (.t 69), none⟩, ⟨some 77, .fldA false 6 1 (.t 76), none⟩, ⟨none, .store 1 (.t 77) (.t 72), none⟩]
set_option maxRecDepth 100000 in
theorem asgF {S : Nat → V} {σ : Store} {id id5 : Nat} {m : Sm} {x : Fl} {i : Int} {k : List It} {Q : St → Prop} (h0 : S 0 = .ptr id 0 0) (h1 : S 1 = vI i) (h5 : S 5 = .ptr id5 0 0) (hne : id5 ≠ id)
    (hid : σ id = some ⟨46, 8, [encM m]⟩) (hid5 : σ id5 = some ⟨24, 4, [encF x]⟩)
    (h : ∀ s', s' 0 = .ptr id 0 0 → s' 1 = vI i → s' 5 = .ptr id5 0 0 → Runs Tryd.prog 103 k ⟨s', upd σ id ⟨46, 8, [encM { m with full := i, most := x.used }]⟩⟩ Q) : Runs Tryd.prog 103 (.code (.regA asgFL asgD) :: k) ⟨S, σ⟩ Q := by
  refine Runs.regD (by kernel_rfl) (asgV id id5 i x.used 4 6) (asgS σ id { m with full := i } { m with full := i, most := x.used }) (by kernel_rfl) rfl ⟨?_, ?_, ?_, ?_, ?_, ?_, ?_, ?_, ?_, ?_, ?_, ?_, trivial⟩ ?_
  · intro s' hd hf; exact ⟨rfl, rfl, trivial, fun p => congrArg some ((hf 0 (by kernel_rfl)).trans h0)⟩
  · intro s' hd hf; exact ⟨rfl, rfl, trivial, fun p => congrArg some ((hf 0 (by kernel_rfl)).trans h0)⟩
  · intro s' hd hf; exact ⟨rfl, rfl, trivial, fun p => congrArg some ((hf 1 (by kernel_rfl)).trans h1)⟩
  · intro s' hd hf
    have e := hf 5 (by kernel_rfl)
    exact ⟨rfl, rfl, trivial, fun p => by simp [vpure, VX.ev, fldAV, e, h5, asgV]⟩
  · intro s' hd hf
    have e : s' 71 = .ptr id5 0 2 := hd 3 (by decide)
    exact ⟨rfl, rfl, trivial, fun p => by simp [vpure, VX.ev, loadV, e, asgS_id5 hne hid5, asgV, encF, V.cells]⟩
  · intro s' hd hf
    have e : s' 68 = .ptr id 0 0 := hd 0 (by decide)
    exact ⟨rfl, rfl, trivial, fun p => by simp [vpure, VX.ev, nilCheckV, e, asgV]⟩
  · intro s' hd hf
    have e : s' 73 = .ptr id 0 0 := hd 5 (by decide)
    exact ⟨rfl, rfl, trivial, fun p => by simp [vpure, VX.ev, fldAV, e, asgV]⟩
  · intro s' hd hf
    have e : s' 74 = .ptr id 0 0 := hd 6 (by decide)
    exact ⟨rfl, rfl, trivial, fun p => by simp [vpure, VX.ev, fldAV, e, asgV]⟩
  · intro s' hd hf
    have e : s' 75 = .ptr id 0 4 := hd 7 (by decide)
    have e2 : s' 70 = vI i := hd 2 (by decide)
    refine ⟨?_, rfl⟩
    show storeS σ 1 (s' 75) (s' 70) = some (asgS σ id _ _ 1)
    rw [e, e2]
    simp [storeS, hid, encM, setRowV, V.cells, V.stays, asgS]
  · intro s' hd hf
    have e : s' 69 = .ptr id 0 0 := hd 1 (by decide)
    exact ⟨rfl, rfl, trivial, fun p => by simp [vpure, VX.ev, nilCheckV, e, asgV]⟩
  · intro s' hd hf
    have e : s' 76 = .ptr id 0 0 := hd 9 (by decide)
    exact ⟨rfl, rfl, trivial, fun p => by simp [vpure, VX.ev, fldAV, e, asgV]⟩
  · intro s' hd hf
    have e : s' 77 = .ptr id 0 6 := hd 10 (by decide)
    have e2 : s' 72 = vI x.used := hd 4 (by decide)
    refine ⟨?_, rfl⟩
    show storeS (asgS σ id _ _ 1) 1 (s' 77) (s' 72) = some (asgS σ id _ _ 2)
    rw [e, e2]
    simp [storeS, encM, setRowV, V.cells, V.stays, asgS, upd_same, upd_upd]
  · intro s' hv hf
    exact h s' ((hf 0 (by kernel_rfl)).trans h0) ((hf 1 (by kernel_rfl)).trans h1) ((hf 5 (by kernel_rfl)).trans h5)
def asgEL : List VIns := [⟨some 93, .mov (.t 0), none⟩, ⟨some 94, .mov (.t 0), none⟩, ⟨some 95, .mov (.t 1), none⟩, ⟨some 96, .fldA false 2 1 (.t 5), none⟩, ⟨some 97, .load false 1 (.t 96), none⟩, ⟨some 98, .nilCheck (.t 93), none⟩, ⟨some 99, .fldA true 0 6 (.t 98), none⟩, ⟨some 100, .fldA false 5 1 (.t 99), none⟩, ⟨none, .store 1 (.t 100) (.t 95), none⟩, ⟨some 101, .nilCheck (.t 94), none⟩, ⟨some 102, .fldA false 7 1 (.t 101), none⟩, ⟨none, .store 1 (.t 102) (.t 97), none⟩]
set_option maxRecDepth 100000 in
theorem asgE {S : Nat → V} {σ : Store} {id id5 : Nat} {m : Sm} {x : Fl} {i : Int} {k : List It} {Q : St → Prop} (h0 : S 0 = .ptr id 0 0) (h1 : S 1 = vI i) (h5 : S 5 = .ptr id5 0 0) (hne : id5 ≠ id)
    (hid : σ id = some ⟨46, 8, [encM m]⟩) (hid5 : σ id5 = some ⟨24, 4, [encF x]⟩)
    (h : ∀ s', s' 0 = .ptr id 0 0 → s' 1 = vI i → s' 5 = .ptr id5 0 0 → Runs Tryd.prog 103 k ⟨s', upd σ id ⟨46, 8, [encM { m with empt := i, least := x.used }]⟩⟩ Q) : Runs Tryd.prog 103 (.code (.regA asgEL asgD) :: k) ⟨S, σ⟩ Q := by
  refine Runs.regD (by kernel_rfl) (asgV id id5 i x.used 5 7) (asgS σ id { m with empt := i } { m with empt := i, least := x.used }) (by kernel_rfl) rfl ⟨?_, ?_, ?_, ?_, ?_, ?_, ?_, ?_, ?_, ?_, ?_, ?_, trivial⟩ ?_
  · intro s' hd hf; exact ⟨rfl, rfl, trivial, fun p => congrArg some ((hf 0 (by kernel_rfl)).trans h0)⟩
  · intro s' hd hf; exact ⟨rfl, rfl, trivial, fun p => congrArg some ((hf 0 (by kernel_rfl)).trans h0)⟩
  · intro s' hd hf; exact ⟨rfl, rfl, trivial, fun p => congrArg some ((hf 1 (by kernel_rfl)).trans h1)⟩
  · intro s' hd hf
    have e := hf 5 (by kernel_rfl)
    exact ⟨rfl, rfl, trivial, fun p => by simp [vpure, VX.ev, fldAV, e, h5, asgV]⟩
  · intro s' hd hf
    have e : s' 96 = .ptr id5 0 2 := hd 3 (by decide)
    exact ⟨rfl, rfl, trivial, fun p => by simp [vpure, VX.ev, loadV, e, asgS_id5 hne hid5, asgV, encF, V.cells]⟩
  · intro s' hd hf
    have e : s' 93 = .ptr id 0 0 := hd 0 (by decide)
    exact ⟨rfl, rfl, trivial, fun p => by simp [vpure, VX.ev, nilCheckV, e, asgV]⟩
  · intro s' hd hf
    have e : s' 98 = .ptr id 0 0 := hd 5 (by decide)
    exact ⟨rfl, rfl, trivial, fun p => by simp [vpure, VX.ev, fldAV, e, asgV]⟩
  · intro s' hd hf
    have e : s' 99 = .ptr id 0 0 := hd 6 (by decide)
    exact ⟨rfl, rfl, trivial, fun p => by simp [vpure, VX.ev, fldAV, e, asgV]⟩
  · intro s' hd hf
    have e : s' 100 = .ptr id 0 5 := hd 7 (by decide)
    have e2 : s' 95 = vI i := hd 2 (by decide)
    refine ⟨?_, rfl⟩
    show storeS σ 1 (s' 100) (s' 95) = some (asgS σ id _ _ 1)
    rw [e, e2]
    simp [storeS, hid, encM, setRowV, V.cells, V.stays, asgS]
  · intro s' hd hf
    have e : s' 94 = .ptr id 0 0 := hd 1 (by decide)
    exact ⟨rfl, rfl, trivial, fun p => by simp [vpure, VX.ev, nilCheckV, e, asgV]⟩
  · intro s' hd hf
    have e : s' 101 = .ptr id 0 0 := hd 9 (by decide)
    exact ⟨rfl, rfl, trivial, fun p => by simp [vpure, VX.ev, fldAV, e, asgV]⟩
  · intro s' hd hf
    have e : s' 102 = .ptr id 0 7 := hd 10 (by decide)
    have e2 : s' 97 = vI x.used := hd 4 (by decide)
    refine ⟨?_, rfl⟩
    show storeS (asgS σ id _ _ 1) 1 (s' 102) (s' 97) = some (asgS σ id _ _ 2)
    rw [e, e2]
    simp [storeS, encM, setRowV, V.cells, V.stays, asgS, upd_same, upd_upd]
  · intro s' hv hf
    exact h s' ((hf 0 (by kernel_rfl)).trans h0) ((hf 1 (by kernel_rfl)).trans h1) ((hf 5 (by kernel_rfl)).trans h5)
def tailC : VCode := (VCode.reg true [⟨some 78, .mov (.t 0), none⟩, ⟨some 79, .nilCheck (.t 78), none⟩, ⟨some 80, .fldA true 0 6 (.t 79), none⟩, ⟨some 81, .fldA false 5 1 (.t 80), none⟩, ⟨some 82, .load false 1 (.t 81), none⟩, ⟨some 83, .bin .lss (.t 82) (.c (.int .i64 0)), none⟩, ⟨some 84, .mov (.t 83), none⟩, ⟨some 85, .fldA false 2 1 (.t 5), some (.t 84, false)⟩, ⟨some 86, .load false 1 (.t 85), some (.t 84, false)⟩, ⟨some 87, .mov (.t 0), some (.t 84, false)⟩, ⟨some 88, .nilCheck (.t 87), some (.t 84, false)⟩, ⟨some 89, .fldA false 7 1 (.t 88), some (.t 84, false)⟩, ⟨some 90, .load false 1 (.t 89), some (.t 84, false)⟩, ⟨some 91, .bin .lss (.t 86) (.t 90), some (.t 84, false)⟩, ⟨some 92, .pick (.t 84) (.c (.bool true)) (.t 91), none⟩]).seq (.cond (.t 92) (.regA asgEL asgD) .skip)
set_option maxRecDepth 100000 in
theorem tail_c {S : Nat → V} {σ : Store} {id id5 : Nat} {m : Sm} {x : Fl} {i : Int} {Q : St → Prop} (h0 : S 0 = .ptr id 0 0) (h1 : S 1 = vI i) (h5 : S 5 = .ptr id5 0 0) (hne : id5 ≠ id)
    (hid : σ id = some ⟨46, 8, [encM m]⟩) (hid5 : σ id5 = some ⟨24, 4, [encF x]⟩)
    (h : ∀ s', Q ⟨s', upd σ id ⟨46, 8, [encM (putC m i x)]⟩⟩) : Runs Tryd.prog 103 [.code tailC] ⟨S, σ⟩ Q := by
  have fin : ∀ s', (m.empt < 0 ∨ x.used < m.least) → Q ⟨s', upd σ id ⟨46, 8, [encM { m with empt := i, least := x.used }]⟩⟩ := fun s' hc => by
    have := h s'; unfold putC at this; rwa [if_pos hc] at this
  have hide := hid
  have hid5e := hid5
  unfold encM at hide
  unfold encF at hid5e
  refine Runs.mix 6 ?_
  by_cases hf : m.empt < 0
  · have hf' : (m.empt < 0) = True := by simp [hf]
    (refine Runs.of_step Orc.nothing 300 ?_; simp -implicitDefEqProofs only [BB, Int.reduceEq, Int.reduceNe, Int.reduceLT, Int.reduceLE, Int.reduceGT, Int.reduceGE, Nat.reduceEqDiff, Nat.reduceAdd, Nat.reduceMul, Nat.reduceLeDiff, Nat.reduceSub, Nat.reduceLT, Nat.reduceBEq, ↓reduceIte, reduceCtorEq, ← decide_not, okind, vpre, vpure, intBin, intPre, strBin, strPre, popTo, argSlots, fldV, fldAV, subCells, idxVV, idxAAV, idxSV, sliceV, sliceSV, boundV, szIs, storeOp, storeS, setRowV, eff, extV, buildV, splice, eqSV, fitsL, eqCells, eqCell, minmaxV, capV, binBV, nilCheckV, bytesV, Orc.nothing, tailC, h0, h1, h5, hide, hid5e, V.cells_agg, V.cells_int, V.cells_nils, V.cells_own, V.cells_sl, V.cells_str, V.cells_bool, V.cells_fn, V.cells_ptr, V.cells_rp, V.stays_agg, V.stays_int, V.stays_nils, V.stays_own, V.stays_sl, V.stays_str, V.stays_bool, V.stays_fn, V.stays_ptr, V.stays_rp, hf', s_r_regA])
    exact asgE h0 h1 h5 hne hid hid5 fun s' _ _ _ => Runs.nil (fin s' (.inl hf))
  · have hf' : (m.empt < 0) = False := by simp [hf]
    by_cases hg : x.used < m.least
    · have hg' : (x.used < m.least) = True := by simp [hg]
      (refine Runs.of_step Orc.nothing 300 ?_; simp -implicitDefEqProofs only [BB, Int.reduceEq, Int.reduceNe, Int.reduceLT, Int.reduceLE, Int.reduceGT, Int.reduceGE, Nat.reduceEqDiff, Nat.reduceAdd, Nat.reduceMul, Nat.reduceLeDiff, Nat.reduceSub, Nat.reduceLT, Nat.reduceBEq, ↓reduceIte, reduceCtorEq, ← decide_not, okind, vpre, vpure, intBin, intPre, strBin, strPre, popTo, argSlots, fldV, fldAV, subCells, idxVV, idxAAV, idxSV, sliceV, sliceSV, boundV, szIs, storeOp, storeS, setRowV, eff, extV, buildV, splice, eqSV, fitsL, eqCells, eqCell, minmaxV, capV, binBV, nilCheckV, bytesV, Orc.nothing, tailC, h0, h1, h5, hide, hid5e, V.cells_agg, V.cells_int, V.cells_nils, V.cells_own, V.cells_sl, V.cells_str, V.cells_bool, V.cells_fn, V.cells_ptr, V.cells_rp, V.stays_agg, V.stays_int, V.stays_nils, V.stays_own, V.stays_sl, V.stays_str, V.stays_bool, V.stays_fn, V.stays_ptr, V.stays_rp, hf', hg', s_r_regA])
      exact asgE h0 h1 h5 hne hid hid5 fun s' _ _ _ => Runs.nil (fin s' (.inr hg))
    · have hg' : (x.used < m.least) = False := by simp [hg]
      (refine Runs.of_step Orc.nothing 300 ?_; simp -implicitDefEqProofs only [BB, Int.reduceEq, Int.reduceNe, Int.reduceLT, Int.reduceLE, Int.reduceGT, Int.reduceGE, Nat.reduceEqDiff, Nat.reduceAdd, Nat.reduceMul, Nat.reduceLeDiff, Nat.reduceSub, Nat.reduceLT, Nat.reduceBEq, ↓reduceIte, reduceCtorEq, ← decide_not, okind, vpre, vpure, intBin, intPre, strBin, strPre, popTo, argSlots, fldV, fldAV, subCells, idxVV, idxAAV, idxSV, sliceV, sliceSV, boundV, szIs, storeOp, storeS, setRowV, eff, extV, buildV, splice, eqSV, fitsL, eqCells, eqCell, minmaxV, capV, binBV, nilCheckV, bytesV, Orc.nothing, tailC, h0, h1, h5, hide, hid5e, V.cells_agg, V.cells_int, V.cells_nils, V.cells_own, V.cells_sl, V.cells_str, V.cells_bool, V.cells_fn, V.cells_ptr, V.cells_rp, V.stays_agg, V.stays_int, V.stays_nils, V.stays_own, V.stays_sl, V.stays_str, V.stays_bool, V.stays_fn, V.stays_ptr, V.stays_rp, hf', hg', s_r_regA])
      have := h
      unfold putC at this
      rw [if_neg (by rintro (h | h); exact hf h; exact hg h)] at this
      have hu : upd σ id ⟨46, 8, [encM m]⟩ = σ := upd_self hid
      rw [hu] at this
      exact this _
set_option maxRecDepth 100000 in
theorem put_c (m : Sm) (i : Int) (x : Fl) (h1 : 0 ≤ m.pages ∧ m.pages ≤ 1000000000) (h2 : 0 ≤ m.blank ∧ m.blank ≤ 1000000000) (id : Nat) (σ : Store) (hid : σ id = some ⟨46, 8, [encM m]⟩) :
    Contract Tryd.prog 16 [.ptr id 0 0, vI i, encF x] σ fun r σ' => r = .tup [] ∧ σ' = upd σ id ⟨46, 8, [encM (putM m i x)]⟩ := by
  refine Contract.of_runs Tryd.func16 e16 k16 (by simp [c16]) ?_
  refine Runs.mix 6 ?_
  unfold encM at hid
  have r1 : inR .i64 (m.pages + 1) := inR_i64 (by omega) (by omega)
  (refine Runs.of_step Orc.nothing 300 ?_; simp -implicitDefEqProofs only [BB, Int.reduceEq, Int.reduceNe, Int.reduceLT, Int.reduceLE, Int.reduceGT, Int.reduceGE, Nat.reduceEqDiff, Nat.reduceAdd, Nat.reduceMul, Nat.reduceLeDiff, Nat.reduceSub, Nat.reduceLT, Nat.reduceBEq, ↓reduceIte, reduceCtorEq, ← decide_not, okind, vpre, vpure, intBin, intPre, strBin, strPre, popTo, argSlots, fldV, fldAV, subCells, idxVV, idxAAV, idxSV, sliceV, sliceSV, boundV, szIs, storeOp, storeS, setRowV, eff, extV, buildV, splice, eqSV, fitsL, eqCells, eqCell, minmaxV, capV, binBV, nilCheckV, bytesV, V.cells, V.stays, Orc.nothing, c16, encF])
  refine effR_new fun id5 σ5 s5 a5 f5 => ?_
  have n5 : id ≠ id5 := ne_new hid f5
  have g := s5 _ _ hid
  simp -implicitDefEqProofs only [BB, Int.reduceEq, Int.reduceNe, Int.reduceLT, Int.reduceLE, Int.reduceGT, Int.reduceGE, Nat.reduceEqDiff, Nat.reduceAdd, Nat.reduceMul, Nat.reduceLeDiff, Nat.reduceSub, Nat.reduceLT, Nat.reduceBEq, ↓reduceIte, reduceCtorEq, ← decide_not, okind, vpre, vpure, intBin, intPre, strBin, strPre, popTo, argSlots, fldV, fldAV, subCells, idxVV, idxAAV, idxSV, sliceV, sliceSV, boundV, szIs, storeOp, storeS, setRowV, eff, extV, buildV, splice, eqSV, fitsL, eqCells, eqCell, minmaxV, capV, binBV, nilCheckV, bytesV, V.cells, V.stays, g, r1]
  simp -implicitDefEqProofs only [BB, Int.reduceEq, Int.reduceNe, Int.reduceLT, Int.reduceLE, Int.reduceGT, Int.reduceGE, Nat.reduceEqDiff, Nat.reduceAdd, Nat.reduceMul, Nat.reduceLeDiff, Nat.reduceSub, Nat.reduceLT, Nat.reduceBEq, ↓reduceIte, reduceCtorEq, ← decide_not, okind, vpre, vpure, intBin, intPre, strBin, strPre, popTo, argSlots, fldV, fldAV, subCells, idxVV, idxAAV, idxSV, sliceV, sliceSV, boundV, szIs, storeOp, storeS, setRowV, eff, extV, buildV, splice, eqSV, fitsL, eqCells, eqCell, minmaxV, capV, binBV, nilCheckV, bytesV, V.cells, V.stays, upd_ne n5.symm, a5, upd_same]
  refine effD_new fun id6 σ6 s6 a6 f6 => ?_
  have n6 : id ≠ id6 := ne_new upd_same f6
  have n56 : id5 ≠ id6 := ne_new ((upd_ne n5.symm).trans a5) f6
  have g6 := s6 _ _ upd_same
  have g56 := s6 _ _ ((upd_ne n5.symm).trans a5)
  simp -implicitDefEqProofs only [BB, Int.reduceEq, Int.reduceNe, Int.reduceLT, Int.reduceLE, Int.reduceGT, Int.reduceGE, Nat.reduceEqDiff, Nat.reduceAdd, Nat.reduceMul, Nat.reduceLeDiff, Nat.reduceSub, Nat.reduceLT, Nat.reduceBEq, ↓reduceIte, reduceCtorEq, ← decide_not, okind, vpre, vpure, intBin, intPre, strBin, strPre, popTo, argSlots, fldV, fldAV, subCells, idxVV, idxAAV, idxSV, sliceV, sliceSV, boundV, szIs, storeOp, storeS, setRowV, eff, extV, buildV, splice, eqSV, fitsL, eqCells, eqCell, minmaxV, capV, binBV, nilCheckV, bytesV, V.cells, V.stays]
  refine Go.dcallB (v := vI (addI [m.used, x.used])) rfl rfl rfl (fun σ8 h8 => PFun.borrow (args' := [encI [m.used, x.used]])
    ⟨by have := Wk.own (nost_sub σ8) (h8 _ _ a6) (σ' := nost) rfl (off := 0) (len := 2) (by simp); exact this, trivial⟩ (add_c _ (by simp)) rfl) ?_
  (refine Go.of_step Orc.nothing 300 _ _ ?_; simp -implicitDefEqProofs only [BB, Int.reduceEq, Int.reduceNe, Int.reduceLT, Int.reduceLE, Int.reduceGT, Int.reduceGE, Nat.reduceEqDiff, Nat.reduceAdd, Nat.reduceMul, Nat.reduceLeDiff, Nat.reduceSub, Nat.reduceLT, Nat.reduceBEq, ↓reduceIte, reduceCtorEq, ← decide_not, okind, vpre, vpure, intBin, intPre, strBin, strPre, popTo, argSlots, fldV, fldAV, subCells, idxVV, idxAAV, idxSV, sliceV, sliceSV, boundV, szIs, storeOp, storeS, setRowV, eff, extV, buildV, splice, eqSV, fitsL, eqCells, eqCell, minmaxV, capV, binBV, nilCheckV, bytesV, Orc.nothing, g6, g56, V.cells_agg, V.cells_int, V.cells_nils, V.cells_own, V.cells_sl, V.cells_str, V.cells_bool, V.cells_fn, V.cells_ptr, V.cells_rp, V.stays_agg, V.stays_int, V.stays_nils, V.stays_own, V.stays_sl, V.stays_str, V.stays_bool, V.stays_fn, V.stays_ptr, V.stays_rp])
  refine effD_new fun id7 σ7 s7 a7 f7 => ?_
  have n7 : id ≠ id7 := ne_new g6 f7
  have n57 : id5 ≠ id7 := ne_new g56 f7
  have g7 := s7 _ _ g6
  have g57 := s7 _ _ g56
  simp -implicitDefEqProofs only [BB, Int.reduceEq, Int.reduceNe, Int.reduceLT, Int.reduceLE, Int.reduceGT, Int.reduceGE, Nat.reduceEqDiff, Nat.reduceAdd, Nat.reduceMul, Nat.reduceLeDiff, Nat.reduceSub, Nat.reduceLT, Nat.reduceBEq, ↓reduceIte, reduceCtorEq, ← decide_not, okind, vpre, vpure, intBin, intPre, strBin, strPre, popTo, argSlots, fldV, fldAV, subCells, idxVV, idxAAV, idxSV, sliceV, sliceSV, boundV, szIs, storeOp, storeS, setRowV, eff, extV, buildV, splice, eqSV, fitsL, eqCells, eqCell, minmaxV, capV, binBV, nilCheckV, bytesV, V.cells, V.stays]
  refine Go.dcallB (v := vI (addI [m.free, x.free])) rfl rfl rfl (fun σ8 h8 => PFun.borrow (args' := [encI [m.free, x.free]])
    ⟨by have := Wk.own (nost_sub σ8) (h8 _ _ a7) (σ' := nost) rfl (off := 0) (len := 2) (by simp); exact this, trivial⟩ (add_c _ (by simp)) rfl) ?_
  have gm : ∀ o, RetV (.tup []) (upd σ7 id o) fun r σ' => r = .tup [] ∧ σ' = upd σ id o := fun o => by
    have h := (((s5.upd2 (o := ⟨46, 8, [.agg [vI (m.pages + 1), vI m.blank, vI m.used, vI m.free, vI m.full, vI m.empt, vI m.most, vI m.least]]⟩)).trans s6).trans s7).upd2 (id := id) (o := o)
    rw [upd_upd] at h
    exact ⟨_, upd σ id o, h, Wk.refl h _, rfl, rfl⟩
  by_cases hk : x.kind = 3
  · have hk' : (x.kind = 3) = True := by simp [hk]
    (refine Go.of_step Orc.nothing 300 _ _ ?_; simp -implicitDefEqProofs only [BB, Int.reduceEq, Int.reduceNe, Int.reduceLT, Int.reduceLE, Int.reduceGT, Int.reduceGE, Nat.reduceEqDiff, Nat.reduceAdd, Nat.reduceMul, Nat.reduceLeDiff, Nat.reduceSub, Nat.reduceLT, Nat.reduceBEq, ↓reduceIte, reduceCtorEq, ← decide_not, okind, vpre, vpure, intBin, intPre, strBin, strPre, popTo, argSlots, fldV, fldAV, subCells, idxVV, idxAAV, idxSV, sliceV, sliceSV, boundV, szIs, storeOp, storeS, setRowV, eff, extV, buildV, splice, eqSV, fitsL, eqCells, eqCell, minmaxV, capV, binBV, nilCheckV, bytesV, Orc.nothing, g7, g57, upd_ne n5.symm, upd_same, V.cells_agg, V.cells_int, V.cells_nils, V.cells_own, V.cells_sl, V.cells_str, V.cells_bool, V.cells_fn, V.cells_ptr, V.cells_rp, V.stays_agg, V.stays_int, V.stays_nils, V.stays_own, V.stays_sl, V.stays_str, V.stays_bool, V.stays_fn, V.stays_ptr, V.stays_rp, hk', inR_i64 (show -9223372036854775808 ≤ m.blank + 1 by omega) (by omega)])
    have := gm ⟨46, 8, [encM (putM m i x)]⟩
    rw [show putM m i x = { putA m x with blank := m.blank + 1 } by unfold putM; rw [if_pos hk]] at this ⊢
    exact this
  · have hk' : (x.kind = 3) = False := by simp [hk]
    have hpm : putM m i x = putC (putB (putA m x) i x) i x := by unfold putM; rw [if_neg hk]
    rw [hpm]
    have hmf : (putA m x).full = m.full ∧ (putA m x).most = m.most := ⟨rfl, rfl⟩
    have go : ∀ (S : Nat → V) (m' : Sm), S 0 = .ptr id 0 0 → S 1 = vI i → S 5 = .ptr id5 0 0 → Runs Tryd.prog 103 [.code tailC] ⟨S, upd σ7 id ⟨46, 8, [encM m']⟩⟩ fun st => RetV (.tup []) st.σ fun r σ' => r = .tup [] ∧ σ' = upd σ id ⟨46, 8, [encM (putC m' i x)]⟩ := fun S m' q0 q1 q5 =>
      tail_c q0 q1 q5 n5.symm upd_same (by rw [upd_ne n5.symm]; exact g57) fun s' => by simp only [upd_upd]; exact gm _
    by_cases hc : m.full < 0 ∨ x.used > m.most
    · have hpb : putB (putA m x) i x = { putA m x with full := i, most := x.used } := by unfold putB; rw [hmf.1, hmf.2, if_pos hc]
      rw [hpb]
      have go2 : ∀ (S : Nat → V), S 0 = .ptr id 0 0 → S 1 = vI i → S 5 = .ptr id5 0 0 → Runs Tryd.prog 103 [.code (.regA asgFL asgD), .code tailC] ⟨S, upd σ7 id ⟨46, 8, [encM (putA m x)]⟩⟩ fun st => RetV (.tup []) st.σ fun r σ' => r = .tup [] ∧ σ' = upd σ id ⟨46, 8, [encM (putC { putA m x with full := i, most := x.used } i x)]⟩ := fun S q0 q1 q5 =>
        asgF q0 q1 q5 n5.symm upd_same (by rw [upd_ne n5.symm]; exact g57) fun s' p0 p1 p5 => by rw [upd_upd]; exact go s' _ p0 p1 p5
      by_cases hf : m.full < 0
      · have hf' : (m.full < 0) = True := by simp [hf]
        (refine Go.of_step Orc.nothing 300 _ _ ?_; simp -implicitDefEqProofs only [BB, Int.reduceEq, Int.reduceNe, Int.reduceLT, Int.reduceLE, Int.reduceGT, Int.reduceGE, Nat.reduceEqDiff, Nat.reduceAdd, Nat.reduceMul, Nat.reduceLeDiff, Nat.reduceSub, Nat.reduceLT, Nat.reduceBEq, ↓reduceIte, reduceCtorEq, ← decide_not, okind, vpre, vpure, intBin, intPre, strBin, strPre, popTo, argSlots, fldV, fldAV, subCells, idxVV, idxAAV, idxSV, sliceV, sliceSV, boundV, szIs, storeOp, storeS, setRowV, eff, extV, buildV, splice, eqSV, fitsL, eqCells, eqCell, minmaxV, capV, binBV, nilCheckV, bytesV, Orc.nothing, g7, g57, upd_ne n5.symm, upd_same, V.cells_agg, V.cells_int, V.cells_nils, V.cells_own, V.cells_sl, V.cells_str, V.cells_bool, V.cells_fn, V.cells_ptr, V.cells_rp, V.stays_agg, V.stays_int, V.stays_nils, V.stays_own, V.stays_sl, V.stays_str, V.stays_bool, V.stays_fn, V.stays_ptr, V.stays_rp, hk', hf', s_r_regA])
        refine go2 _ ?_ ?_ ?_ <;> rfl
      · have hf' : (m.full < 0) = False := by simp [hf]
        have hg' : (x.used > m.most) = True := by simp; omega
        (refine Go.of_step Orc.nothing 300 _ _ ?_; simp -implicitDefEqProofs only [BB, Int.reduceEq, Int.reduceNe, Int.reduceLT, Int.reduceLE, Int.reduceGT, Int.reduceGE, Nat.reduceEqDiff, Nat.reduceAdd, Nat.reduceMul, Nat.reduceLeDiff, Nat.reduceSub, Nat.reduceLT, Nat.reduceBEq, ↓reduceIte, reduceCtorEq, ← decide_not, okind, vpre, vpure, intBin, intPre, strBin, strPre, popTo, argSlots, fldV, fldAV, subCells, idxVV, idxAAV, idxSV, sliceV, sliceSV, boundV, szIs, storeOp, storeS, setRowV, eff, extV, buildV, splice, eqSV, fitsL, eqCells, eqCell, minmaxV, capV, binBV, nilCheckV, bytesV, Orc.nothing, g7, g57, upd_ne n5.symm, upd_same, V.cells_agg, V.cells_int, V.cells_nils, V.cells_own, V.cells_sl, V.cells_str, V.cells_bool, V.cells_fn, V.cells_ptr, V.cells_rp, V.stays_agg, V.stays_int, V.stays_nils, V.stays_own, V.stays_sl, V.stays_str, V.stays_bool, V.stays_fn, V.stays_ptr, V.stays_rp, hk', hf', hg', s_r_regA])
        refine go2 _ ?_ ?_ ?_ <;> rfl
    · have hpb : putB (putA m x) i x = putA m x := by unfold putB; rw [hmf.1, hmf.2, if_neg hc]
      rw [hpb]
      have hf' : (m.full < 0) = False := by simp; omega
      have hg' : (x.used > m.most) = False := by simp; omega
      (refine Go.of_step Orc.nothing 39 _ _ ?_; simp -implicitDefEqProofs only [BB, Int.reduceEq, Int.reduceNe, Int.reduceLT, Int.reduceLE, Int.reduceGT, Int.reduceGE, Nat.reduceEqDiff, Nat.reduceAdd, Nat.reduceMul, Nat.reduceLeDiff, Nat.reduceSub, Nat.reduceLT, Nat.reduceBEq, ↓reduceIte, reduceCtorEq, ← decide_not, okind, vpre, vpure, intBin, intPre, strBin, strPre, popTo, argSlots, fldV, fldAV, subCells, idxVV, idxAAV, idxSV, sliceV, sliceSV, boundV, szIs, storeOp, storeS, setRowV, eff, extV, buildV, splice, eqSV, fitsL, eqCells, eqCell, minmaxV, capV, binBV, nilCheckV, bytesV, V.cells, V.stays, s_zero, Orc.nothing, g7, g57, upd_ne n5.symm, upd_same, V.cells_agg, V.cells_int, V.cells_nils, V.cells_own, V.cells_sl, V.cells_str, V.cells_bool, V.cells_fn, V.cells_ptr, V.cells_rp, -V.cells, V.stays_agg, V.stays_int, V.stays_nils, V.stays_own, V.stays_sl, V.stays_str, V.stays_bool, V.stays_fn, V.stays_ptr, V.stays_rp, -V.stays, hk', hf', hg'])
      refine go _ (putA m x) ?_ ?_ ?_ <;> rfl
end Go.Vc
namespace Go.Vc
open Go.Proofs
def encFl (l : List Fl) : V := .sl 4 (l.map encF)
theorem len_encFl (l : List Fl) : lenV false (encFl l) = some (vI l.length) := by simp [encFl, lenV]
theorem idx_encFl {σ : Store} {l : List Fl} {i : Nat} (h : i < l.length) : idxAV σ 4 (encFl l) (vI i) = some (.rp (encF l[i])) := by
  unfold encFl idxAV
  simp [h]
theorem loadV_rp_F (σ : Store) (x : Fl) : loadV σ true 4 (.rp (encF x)) = some (encF x) := rfl
def sm0 : Sm := ⟨0, 0, 0, 0, -1, -1, 0, 0⟩
def sumM : Nat → Sm → List Fl → Sm
  | _, m, [] => m
  | i, m, x :: l => sumM (i + 1) (putM m i x) l
def encU (m : Sm) : V := .agg [vI m.pages, vI m.blank, vI m.used, vI m.free, vI m.full, vI m.empt]
theorem sumM_snoc (x : Fl) : ∀ (l : List Fl) (i : Nat) (m : Sm), sumM i m (l ++ [x]) = putM (sumM i m l) (i + l.length : Nat) x
  | [], i, m => rfl
  | y :: l, i, m => by
    rw [List.cons_append, sumM, sumM_snoc x l (i + 1), sumM, List.length_cons, show i + 1 + l.length = i + (l.length + 1) by omega]
theorem putM_bound (m : Sm) (i : Int) (x : Fl) (k : Nat) (h1 : 0 ≤ m.pages ∧ m.pages ≤ k) (h2 : 0 ≤ m.blank ∧ m.blank ≤ k) :
    (0 ≤ (putM m i x).pages ∧ (putM m i x).pages ≤ (k + 1 : Nat)) ∧ (0 ≤ (putM m i x).blank ∧ (putM m i x).blank ≤ (k + 1 : Nat)) := by
  unfold putM putC putB putA
  (repeat' split) <;> simp <;> omega
theorem sumM_bound (l : List Fl) : (0 ≤ (sumM 0 sm0 l).pages ∧ (sumM 0 sm0 l).pages ≤ l.length) ∧ (0 ≤ (sumM 0 sm0 l).blank ∧ (sumM 0 sm0 l).blank ≤ l.length) := by
  have : ∀ n, ∀ l : List Fl, l.length = n → (0 ≤ (sumM 0 sm0 l).pages ∧ (sumM 0 sm0 l).pages ≤ l.length) ∧ (0 ≤ (sumM 0 sm0 l).blank ∧ (sumM 0 sm0 l).blank ≤ l.length) := by
    intro n
    induction n with
    | zero => intro l h; rw [List.length_eq_zero_iff.1 h]; simp [sumM, sm0]
    | succ n ih =>
      intro l h
      have hne : l ≠ [] := fun e => by rw [e] at h; cases h
      have hl := List.dropLast_concat_getLast hne
      have hd : l.dropLast.length = n := by simp; omega
      have := ih _ hd
      rw [← hl, sumM_snoc]
      have hb := putM_bound (sumM 0 sm0 l.dropLast) (0 + l.dropLast.length : Nat) (l.getLast hne) l.dropLast.length this.1 this.2
      simpa using hb
  exact this _ l rfl
set_option maxRecDepth 100000 in
theorem sum_c (l : List Fl) (hl : l.length ≤ 1000000) : PFun Tryd.prog 7 [encFl l] (encU (sumM 0 sm0 l)) := fun σ => by
  refine Contract.of_runs Tryd.func7 e7 k7 (by simp [c7]) ?_
  refine Runs.mix 7 ?_
  (refine Runs.of_step Orc.nothing 300 ?_; simp -implicitDefEqProofs only [BB, Int.reduceEq, Int.reduceNe, Int.reduceLT, Int.reduceLE, Int.reduceGT, Int.reduceGE, Nat.reduceEqDiff, Nat.reduceAdd, Nat.reduceMul, Nat.reduceLeDiff, Nat.reduceSub, Nat.reduceLT, Nat.reduceBEq, ↓reduceIte, reduceCtorEq, ← decide_not, okind, vpre, vpure, intBin, intPre, strBin, strPre, popTo, argSlots, fldV, fldAV, subCells, idxVV, idxAAV, idxSV, sliceV, sliceSV, boundV, szIs, storeOp, storeS, setRowV, eff, extV, buildV, splice, eqSV, fitsL, eqCells, eqCell, minmaxV, capV, binBV, nilCheckV, bytesV, V.cells, V.stays, Orc.nothing, c7, len_encFl])
  refine effR_new fun id2 σ1 s1 a2 f2 => ?_
  simp -implicitDefEqProofs only [BB, Int.reduceEq, Int.reduceNe, Int.reduceLT, Int.reduceLE, Int.reduceGT, Int.reduceGE, Nat.reduceEqDiff, Nat.reduceAdd, Nat.reduceMul, Nat.reduceLeDiff, Nat.reduceSub, Nat.reduceLT, Nat.reduceBEq, ↓reduceIte, reduceCtorEq, ← decide_not, okind, vpre, vpure, intBin, intPre, strBin, strPre, popTo, argSlots, fldV, fldAV, subCells, idxVV, idxAAV, idxSV, sliceV, sliceSV, boundV, szIs, storeOp, storeS, setRowV, eff, extV, buildV, splice, eqSV, fitsL, eqCells, eqCell, minmaxV, capV, binBV, nilCheckV, bytesV, V.cells, V.stays]
  refine effR_new fun id3 σ2 s2 a3 f3 => ?_
  have n23 : id2 ≠ id3 := ne_new a2 f3
  have g2 := s2 _ _ a2
  have hs := s1.trans s2
  have z3 : σ id3 = none := s1.none f3
  simp -implicitDefEqProofs only [BB, Int.reduceEq, Int.reduceNe, Int.reduceLT, Int.reduceLE, Int.reduceGT, Int.reduceGE, Nat.reduceEqDiff, Nat.reduceAdd, Nat.reduceMul, Nat.reduceLeDiff, Nat.reduceSub, Nat.reduceLT, Nat.reduceBEq, ↓reduceIte, reduceCtorEq, ← decide_not, okind, vpre, vpure, intBin, intPre, strBin, strPre, popTo, argSlots, fldV, fldAV, subCells, idxVV, idxAAV, idxSV, sliceV, sliceSV, boundV, szIs, storeOp, storeS, setRowV, eff, extV, buildV, splice, eqSV, fitsL, eqCells, eqCell, minmaxV, capV, binBV, nilCheckV, bytesV, V.cells, V.stays, a3, len_encFl]
  refine Runs.loop (fun m st => ∃ i : Nat, i ≤ l.length ∧ m = l.length - i ∧ SubStore σ st.σ ∧ st.σ id2 = some ⟨27, 6, [.agg [vI 0, vI 0, vI 0, vI 0, vI 0, vI 0]]⟩ ∧ st.σ id3 = some ⟨46, 8, [encM (sumM 0 sm0 (l.take i))]⟩ ∧
    st.s 2 = .ptr id2 0 0 ∧ st.s 3 = .ptr id3 0 0 ∧ st.s 8 = encFl l ∧ st.s 9 = vI l.length ∧ st.s 10 = vI i) l.length ?_ ?_
  · exact ⟨0, by omega, by omega, hs.updK z3, (upd_ne n23).trans g2, upd_same, rfl, rfl, rfl, rfl, rfl⟩
  · rintro m ⟨s', σ'⟩ ⟨i, hi, rfl, hsub, hr2, hr3, h2, h3, h8, h9, h10⟩
    simp only at hsub hr2 hr3 h2 h3 h8 h9 h10
    refine Runs.mix 12 ?_
    by_cases hlt : i < l.length
    · have hlt' : ((i : Int) < (l.length : Int)) = True := by simp; omega
      have hidx := idx_encFl (σ := σ') hlt
      have r1 : inR .i64 ((i : Int) + 1) := inR_i64 (by omega) (by omega)
      have htk : l.take (i + 1) = l.take i ++ [l[i]] := by rw [List.take_add_one, List.getElem?_eq_getElem hlt]; rfl
      have hsn : sumM 0 sm0 (l.take (i + 1)) = putM (sumM 0 sm0 (l.take i)) i l[i] := by
        rw [htk, sumM_snoc, List.length_take, show 0 + min i l.length = i by omega]
      obtain ⟨b1, b2⟩ := sumM_bound (l.take i)
      have hlen : (l.take i).length ≤ 1000000 := by simp; omega
      (refine Runs.of_step Orc.nothing 300 ?_; simp -implicitDefEqProofs only [BB, Int.reduceEq, Int.reduceNe, Int.reduceLT, Int.reduceLE, Int.reduceGT, Int.reduceGE, Nat.reduceEqDiff, Nat.reduceAdd, Nat.reduceMul, Nat.reduceLeDiff, Nat.reduceSub, Nat.reduceLT, Nat.reduceBEq, ↓reduceIte, reduceCtorEq, ← decide_not, okind, vpre, vpure, intBin, intPre, strBin, strPre, popTo, argSlots, fldV, fldAV, subCells, idxVV, idxAAV, idxSV, sliceV, sliceSV, boundV, szIs, storeOp, storeS, setRowV, eff, extV, buildV, splice, eqSV, fitsL, eqCells, eqCell, minmaxV, capV, binBV, nilCheckV, bytesV, V.cells, V.stays, Orc.nothing, h2, h3, h8, h9, h10, hlt', hidx, loadV_rp_F])
      refine effR_new fun id5 σ5 s5 a5 f5 => ?_
      have n25 := ne_new hr2 f5
      have n35 := ne_new hr3 f5
      simp -implicitDefEqProofs only [BB, Int.reduceEq, Int.reduceNe, Int.reduceLT, Int.reduceLE, Int.reduceGT, Int.reduceGE, Nat.reduceEqDiff, Nat.reduceAdd, Nat.reduceMul, Nat.reduceLeDiff, Nat.reduceSub, Nat.reduceLT, Nat.reduceBEq, ↓reduceIte, reduceCtorEq, ← decide_not, okind, vpre, vpure, intBin, intPre, strBin, strPre, popTo, argSlots, fldV, fldAV, subCells, idxVV, idxAAV, idxSV, sliceV, sliceSV, boundV, szIs, storeOp, storeS, setRowV, eff, extV, buildV, splice, eqSV, fitsL, eqCells, eqCell, minmaxV, capV, binBV, nilCheckV, bytesV, V.cells, V.stays, a5, encF, h2, h3, h8, h9, h10]
      have hc := put_c (sumM 0 sm0 (l.take i)) i l[i] (by omega) (by omega) id3 (upd σ5 id5 ⟨24, 4, [encF l[i]]⟩) (by rw [upd_ne n35]; exact s5 _ _ hr3)
      rw [← h3] at hc
      refine Runs.call rfl rfl rfl hc ?_
      rintro r σ6 ⟨rfl, rfl⟩
      (refine Runs.of_step Orc.nothing 300 ?_; simp -implicitDefEqProofs only [BB, Int.reduceEq, Int.reduceNe, Int.reduceLT, Int.reduceLE, Int.reduceGT, Int.reduceGE, Nat.reduceEqDiff, Nat.reduceAdd, Nat.reduceMul, Nat.reduceLeDiff, Nat.reduceSub, Nat.reduceLT, Nat.reduceBEq, ↓reduceIte, reduceCtorEq, ← decide_not, okind, vpre, vpure, intBin, intPre, strBin, strPre, popTo, argSlots, fldV, fldAV, subCells, idxVV, idxAAV, idxSV, sliceV, sliceSV, boundV, szIs, storeOp, storeS, setRowV, eff, extV, buildV, splice, eqSV, fitsL, eqCells, eqCell, minmaxV, capV, binBV, nilCheckV, bytesV, V.cells, V.stays, Orc.nothing, h2, h3, h8, h9, h10, r1])
      refine ⟨_, ?_, i + 1, by omega, rfl, ?_, ?_, ?_, by simp [h2, h3, h8, h9]⟩
      · omega
      · exact ((hsub.trans s5).updK (hsub.none f5)).updK z3
      · rw [upd_ne n23, upd_ne n25]; exact s5 _ _ hr2
      · rw [hsn]; all_goals exact upd_same
    · have hlt' : ((i : Int) < (l.length : Int)) = False := by simp; omega
      obtain rfl : i = l.length := by omega
      rw [List.take_length] at hr3
      unfold encM at hr3
      (refine Runs.of_step Orc.nothing 300 ?_; simp -implicitDefEqProofs only [BB, Int.reduceEq, Int.reduceNe, Int.reduceLT, Int.reduceLE, Int.reduceGT, Int.reduceGE, Nat.reduceEqDiff, Nat.reduceAdd, Nat.reduceMul, Nat.reduceLeDiff, Nat.reduceSub, Nat.reduceLT, Nat.reduceBEq, ↓reduceIte, reduceCtorEq, ← decide_not, okind, vpre, vpure, intBin, intPre, strBin, strPre, popTo, argSlots, fldV, fldAV, subCells, idxVV, idxAAV, idxSV, sliceV, sliceSV, boundV, szIs, storeOp, storeS, setRowV, eff, extV, buildV, splice, eqSV, fitsL, eqCells, eqCell, minmaxV, capV, binBV, nilCheckV, bytesV, Orc.nothing, h2, h3, h8, h9, h10, hlt', hr2, hr3, V.cells_agg, V.cells_int, V.cells_nils, V.cells_own, V.cells_sl, V.cells_str, V.cells_bool, V.cells_fn, V.cells_ptr, V.cells_rp, V.stays_agg, V.stays_int, V.stays_nils, V.stays_own, V.stays_sl, V.stays_str, V.stays_bool, V.stays_fn, V.stays_ptr, V.stays_rp])
      exact RetV.pure (hsub.updK f2) rfl
end Go.Vc
namespace Go.Vc
open Go.Proofs Go.RowKit Go.Shelf
def encB (l : List UInt8) : List V := l.map fun b => .int .u8 b.toNat
abbrev IsBd := IsB 51 5
theorem lies51 : rowAt Tryd.prog (sameLayout Tryd.prog Tryd.prog.depth · 51) Tryd.prog.depth 51 1 0 1 = true := by kernel_rfl
theorem cells51 : Tryd.prog.cellsOf 51 = 2 := by kernel_rfl
theorem IsB.step {T u8 : TypeId} {K σ : Store} {id : Nat} {rows : List V} {l : List UInt8} {a : V} {idn : Nat} (hK : SubStore K σ) (hn : K id = none) (hid : σ id = some (bRow T a (.own idn 0 rows.length))) (ha : a = .nilp ∨ a = .ptr id 0 0) (hne : idn ≠ id) (hKn : K idn = none)
    (hrow : σ idn = some ⟨u8, 1, rows⟩) (hl : rows = l.map fun b => .int .u8 b.toNat) : IsB T u8 K σ id l := by
  subst hl
  exact ⟨hK, hn, a, _, hid, ha, .inr ⟨idn, rfl, hrow, by simp [Vc.upd, hne, hKn]⟩⟩
set_option maxRecDepth 100000 in
theorem wbyte_c {K σ : Store} {id : Nat} {l : List UInt8} (c : Int) (u : UInt8) (hc : c = u.toNat) (h : IsBd K σ id l) (hl : l.length ≤ 1000000000) :
    Contract Tryd.prog 18 [.ptr id 0 0, .int .u8 c] σ fun r σ' => r = .niliface ∧ IsBd K σ' id (l ++ [u]) := by
  obtain ⟨hK, hn, a, buf, hid, ha, hout⟩ := h
  subst hc
  refine Contract.of_runs Tryd.func18 e18 k18 (by simp [c18]) ?_
  refine Runs.mix 9 ?_
  (refine Runs.of_step Orc.nothing 300 ?_; simp -implicitDefEqProofs only [BB, Int.reduceEq, Int.reduceNe, Int.reduceLT, Int.reduceLE, Int.reduceGT, Int.reduceGE, Nat.reduceEqDiff, Nat.reduceAdd, Nat.reduceMul, Nat.reduceLeDiff, Nat.reduceSub, Nat.reduceLT, Nat.reduceBEq, ↓reduceIte, reduceCtorEq, ← decide_not, okind, vpre, vpure, intBin, intPre, strBin, strPre, popTo, argSlots, fldV, fldAV, subCells, idxVV, idxAAV, idxSV, sliceV, sliceSV, boundV, szIs, storeOp, storeS, setRowV, eff, extV, buildV, splice, eqSV, fitsL, eqCells, eqCell, minmaxV, capV, binBV, nilCheckV, bytesV, V.cells, V.stays, Orc.nothing, c18])
  refine Runs.call rfl rfl rfl (bcheck_c copyCheck cells51 lies51 hid ha) ?_
  rintro r σ1 ⟨rfl, rfl⟩
  have hK1 : SubStore (upd K id (bRow 51 (.ptr id 0 0) buf)) (upd σ id (bRow 51 (.ptr id 0 0) buf)) := hK.upd2
  have hout1 : OutV (upd K id (bRow 51 (.ptr id 0 0) buf)) (upd σ id (bRow 51 (.ptr id 0 0) buf)) 5 1 buf (encB l) := by
    rcases hout with h1 | ⟨i, h1, h2, h3⟩
    · exact .inl h1
    · have : i ≠ id := by rintro rfl; simp [Vc.upd] at h3
      exact .inr ⟨i, h1, by rw [upd_ne this]; exact h2, by rw [upd_ne this] at h3 ⊢; exact h3⟩
  generalize hσ1 : upd σ id (bRow 51 (.ptr id 0 0) buf) = σ1 at *
  have hid1 : σ1 id = some ⟨51, 2, [.agg [.ptr id 0 0, buf]]⟩ := hK1 _ _ upd_same
  (refine Runs.of_step Orc.nothing 300 ?_; simp -implicitDefEqProofs only [BB, Int.reduceEq, Int.reduceNe, Int.reduceLT, Int.reduceLE, Int.reduceGT, Int.reduceGE, Nat.reduceEqDiff, Nat.reduceAdd, Nat.reduceMul, Nat.reduceLeDiff, Nat.reduceSub, Nat.reduceLT, Nat.reduceBEq, ↓reduceIte, reduceCtorEq, ← decide_not, okind, vpre, vpure, intBin, intPre, strBin, strPre, popTo, argSlots, fldV, fldAV, subCells, idxVV, idxAAV, idxSV, sliceV, sliceSV, boundV, szIs, storeOp, storeS, setRowV, eff, extV, buildV, splice, eqSV, fitsL, eqCells, eqCell, minmaxV, capV, binBV, nilCheckV, bytesV, V.cells, V.stays, Orc.nothing, hid1])
  refine effR_new fun id2 σ2 s2 a2 f2 => ?_
  obtain ⟨idA, hda, hdel⟩ := hout1.dst s2
  have hb2 : (l.length + 1) * 2 ≤ 140737488355328 := by omega
  have hlb : (encB l).length = l.length := by simp [encB]
  simp -implicitDefEqProofs only [BB, Int.reduceEq, Int.reduceNe, Int.reduceLT, Int.reduceLE, Int.reduceGT, Int.reduceGE, Nat.reduceEqDiff, Nat.reduceAdd, Nat.reduceMul, Nat.reduceLeDiff, Nat.reduceSub, Nat.reduceLT, Nat.reduceBEq, ↓reduceIte, reduceCtorEq, ← decide_not, okind, vpre, vpure, intBin, intPre, strBin, strPre, popTo, argSlots, fldV, fldAV, subCells, idxVV, idxAAV, idxSV, sliceV, sliceSV, boundV, szIs, storeOp, storeS, setRowV, eff, extV, buildV, splice, eqSV, fitsL, eqCells, eqCell, minmaxV, capV, binBV, nilCheckV, bytesV, V.cells, V.stays, hda, srcOne a2, hlb, hb2]
  refine effR_put fun id3 σ3 s3 a3 f3 => ?_
  have k3 := (hdel _ (SubStore.refl _) σ2 (hK1.trans s2)).trans s3
  have hid3 : σ3 id = some ⟨51, 2, [.agg [.ptr id 0 0, buf]]⟩ := k3 _ _ upd_same
  have n3 : id ≠ id3 := ne_new (s2 _ _ hid1) f3
  have kK : SubStore K σ3 := ((SubStore.refl K).upd_new hn).trans k3
  have hKid3 : K id3 = none := ((SubStore.refl K).upd_new hn).none ((hK1.trans s2).none f3)
  simp -implicitDefEqProofs only [BB, Int.reduceEq, Int.reduceNe, Int.reduceLT, Int.reduceLE, Int.reduceGT, Int.reduceGE, Nat.reduceEqDiff, Nat.reduceAdd, Nat.reduceMul, Nat.reduceLeDiff, Nat.reduceSub, Nat.reduceLT, Nat.reduceBEq, ↓reduceIte, reduceCtorEq, ← decide_not, okind, vpre, vpure, intBin, intPre, strBin, strPre, popTo, argSlots, fldV, fldAV, subCells, idxVV, idxAAV, idxSV, sliceV, sliceSV, boundV, szIs, storeOp, storeS, setRowV, eff, extV, buildV, splice, eqSV, fitsL, eqCells, eqCell, minmaxV, capV, binBV, nilCheckV, bytesV, V.cells, V.stays, hid3, n3, n3.symm]
  refine ⟨_, _, SubStore.refl _, Wk.refl (SubStore.refl _) _, rfl, ?_⟩
  refine IsB.step (rows := encB l ++ [.int .u8 u.toNat]) (kK.updK hn) hn (a := .ptr id 0 0) (idn := id3) ?_ (.inr rfl) n3.symm hKid3 ?_ (by simp [encB])
  · rw [upd_same]; simp [bRow, hlb]
  · rw [upd_ne n3.symm]; exact a3
set_option maxRecDepth 100000 in
theorem wstr_c {K σ : Store} {id : Nat} {l : List UInt8} (s : List UInt8) (h : IsBd K σ id l) (hl : l.length + s.length ≤ 1000000000) :
    Contract Tryd.prog 19 [.ptr id 0 0, .str s] σ fun r σ' => r = .tup [vI s.length, .niliface] ∧ IsBd K σ' id (l ++ s) := by
  obtain ⟨hK, hn, a, buf, hid, ha, hout⟩ := h
  refine Contract.of_runs Tryd.func19 e19 k19 (by simp [c19]) ?_
  refine Runs.mix 9 ?_
  (refine Runs.of_step Orc.nothing 300 ?_; simp -implicitDefEqProofs only [BB, Int.reduceEq, Int.reduceNe, Int.reduceLT, Int.reduceLE, Int.reduceGT, Int.reduceGE, Nat.reduceEqDiff, Nat.reduceAdd, Nat.reduceMul, Nat.reduceLeDiff, Nat.reduceSub, Nat.reduceLT, Nat.reduceBEq, ↓reduceIte, reduceCtorEq, ← decide_not, okind, vpre, vpure, intBin, intPre, strBin, strPre, popTo, argSlots, fldV, fldAV, subCells, idxVV, idxAAV, idxSV, sliceV, sliceSV, boundV, szIs, storeOp, storeS, setRowV, eff, extV, buildV, splice, eqSV, fitsL, eqCells, eqCell, minmaxV, capV, binBV, nilCheckV, bytesV, V.cells, V.stays, Orc.nothing, c19])
  refine Runs.call rfl rfl rfl (bcheck_c copyCheck cells51 lies51 hid ha) ?_
  rintro r σ1 ⟨rfl, rfl⟩
  have hK1 : SubStore (upd K id (bRow 51 (.ptr id 0 0) buf)) (upd σ id (bRow 51 (.ptr id 0 0) buf)) := hK.upd2
  have hout1 : OutV (upd K id (bRow 51 (.ptr id 0 0) buf)) (upd σ id (bRow 51 (.ptr id 0 0) buf)) 5 1 buf (encB l) := by
    rcases hout with h1 | ⟨i, h1, h2, h3⟩
    · exact .inl h1
    · have : i ≠ id := by rintro rfl; simp [Vc.upd] at h3
      exact .inr ⟨i, h1, by rw [upd_ne this]; exact h2, by rw [upd_ne this] at h3 ⊢; exact h3⟩
  generalize hσ1 : upd σ id (bRow 51 (.ptr id 0 0) buf) = σ1 at *
  have hid1 : σ1 id = some ⟨51, 2, [.agg [.ptr id 0 0, buf]]⟩ := hK1 _ _ upd_same
  obtain ⟨idA, hda, hdel⟩ := hout1.dst (SubStore.refl σ1)
  have hlb : (encB l).length = l.length := by simp [encB]
  have hsb : (encB s).length = s.length := by simp [encB]
  have hsr : srcRows σ1 1 (.str s) = some (encB s) := rfl
  have hb2 : (l.length + s.length) * 2 ≤ 140737488355328 := by omega
  (refine Runs.of_step Orc.nothing 300 ?_; simp -implicitDefEqProofs only [BB, Int.reduceEq, Int.reduceNe, Int.reduceLT, Int.reduceLE, Int.reduceGT, Int.reduceGE, Nat.reduceEqDiff, Nat.reduceAdd, Nat.reduceMul, Nat.reduceLeDiff, Nat.reduceSub, Nat.reduceLT, Nat.reduceBEq, ↓reduceIte, reduceCtorEq, ← decide_not, okind, vpre, vpure, intBin, intPre, strBin, strPre, popTo, argSlots, fldV, fldAV, subCells, idxVV, idxAAV, idxSV, sliceV, sliceSV, boundV, szIs, storeOp, storeS, setRowV, eff, extV, buildV, splice, eqSV, fitsL, eqCells, eqCell, minmaxV, capV, binBV, nilCheckV, bytesV, V.cells, V.stays, Orc.nothing, hid1, hda, hsr, hlb, hsb, hb2])
  refine effR_put fun id3 σ3 s3 a3 f3 => ?_
  have k3 := (hdel _ (SubStore.refl _) σ1 hK1).trans s3
  have hid3 : σ3 id = some ⟨51, 2, [.agg [.ptr id 0 0, buf]]⟩ := k3 _ _ upd_same
  have n3 : id ≠ id3 := ne_new hid1 f3
  have kK : SubStore K σ3 := ((SubStore.refl K).upd_new hn).trans k3
  have hKid3 : K id3 = none := ((SubStore.refl K).upd_new hn).none (hK1.none f3)
  simp -implicitDefEqProofs only [BB, Int.reduceEq, Int.reduceNe, Int.reduceLT, Int.reduceLE, Int.reduceGT, Int.reduceGE, Nat.reduceEqDiff, Nat.reduceAdd, Nat.reduceMul, Nat.reduceLeDiff, Nat.reduceSub, Nat.reduceLT, Nat.reduceBEq, ↓reduceIte, reduceCtorEq, ← decide_not, okind, vpre, vpure, intBin, intPre, strBin, strPre, popTo, argSlots, fldV, fldAV, subCells, idxVV, idxAAV, idxSV, sliceV, sliceSV, boundV, szIs, storeOp, storeS, setRowV, eff, extV, buildV, splice, eqSV, fitsL, eqCells, eqCell, minmaxV, capV, binBV, nilCheckV, bytesV, V.cells, V.stays, hid3, n3, n3.symm]
  refine ⟨_, _, SubStore.refl _, Wk.refl (SubStore.refl _) _, rfl, ?_⟩
  refine IsB.step (rows := encB l ++ encB s) (kK.updK hn) hn (a := .ptr id 0 0) (idn := id3) ?_ (.inr rfl) n3.symm hKid3 ?_ (by simp [encB])
  · rw [upd_same]; simp [bRow, hlb, hsb]
  · rw [upd_ne n3.symm]; exact a3
theorem bstr_c {K σ : Store} {id : Nat} {l : List UInt8} (h : IsBd K σ id l) (h0 : l = [] → ∃ a, σ id = some (bRow 51 a .nils)) : Contract Tryd.prog 21 [.ptr id 0 0] σ fun r σ' => r = .str l ∧ σ' = K :=
  bstring_c (ρ := Tryd.lays169_ren) Tryd.lays169 Tryd.Builder_Extra_169 (by kernel_rfl) h h0
end Go.Vc
namespace Go.Vc
open Go.Proofs
def numsF (x : Fl) : List Int := [x.no, x.kind, x.used, x.free]
/-- numbers, a blank between each two -/
def joinT : List Int → List UInt8
  | [] => []
  | n :: l => Lib.itoa n ++ l.flatMap fun m => 32 :: Lib.itoa m
def lineT (x : Fl) : List UInt8 := joinT (numsF x) ++ [10]
def textT (l : List Fl) : List UInt8 := l.flatMap lineT
def writeV (l : List Fl) : V := if l.all rightB then .tup [.str (textT l), vI 0] else .tup [.str [], vI 4]
theorem bad_range {n : Int} (h : badN n = false) : -1099511627776 ≤ n ∧ n ≤ 1099511627776 := by
  unfold badN at h
  have h := of_decide_eq_false h
  have := clamp_range n
  have e : clampI n = n := Classical.not_not.1 h
  omega
theorem right_nums {x : Fl} (h : rightB x = true) : ∀ n ∈ numsF x, -1099511627776 ≤ n ∧ n ≤ 1099511627776 := by
  unfold rightB at h
  simp only [Bool.not_eq_true', List.any_eq_false] at h
  intro n hn
  exact bad_range (by simpa using h n hn)
theorem itoa_len {n : Int} (h : -1099511627776 ≤ n ∧ n ≤ 1099511627776) : (Lib.itoa n).length ≤ 21 := Lib.itoa_length_le n (by omega) (by omega)
theorem joinT_len : ∀ (l : List Int), (∀ n ∈ l, -1099511627776 ≤ n ∧ n ≤ 1099511627776) → (joinT l).length ≤ 22 * l.length
  | [], _ => by simp [joinT]
  | n :: l, h => by
    have h1 := itoa_len (h n (by simp))
    have h2 : ∀ l : List Int, (∀ n ∈ l, -1099511627776 ≤ n ∧ n ≤ 1099511627776) → (l.flatMap fun m => 32 :: Lib.itoa m).length ≤ 22 * l.length := by
      intro l
      induction l with
      | nil => simp
      | cons m l ih =>
        intro h
        have := ih fun n hn => h n (by simp [hn])
        have h3 := itoa_len (h m (by simp))
        simp only [List.flatMap_cons, List.length_append, List.length_cons]
        omega
    have := h2 l fun n hn => h n (by simp [hn])
    simp only [joinT, List.length_append, List.length_cons]
    omega
theorem textT_len : ∀ (l : List Fl), (∀ x ∈ l, rightB x = true) → (textT l).length ≤ 89 * l.length
  | [], _ => by simp [textT]
  | x :: l, h => by
    have h1 := joinT_len (numsF x) (right_nums (h x (by simp)))
    have h2 := textT_len l fun y hy => h y (by simp [hy])
    simp only [textT, List.flatMap_cons, List.length_append, lineT, List.length_cons, List.length_nil] at h2 ⊢
    have : (numsF x).length = 4 := rfl
    omega
theorem IsB.new' {T u8 : TypeId} {K σ σ' : Store} {id i : Nat} {l : List UInt8} {o : Ob} (h : IsB T u8 K σ id l) (hs : SubStore σ σ') (hn : σ i = none) : IsB T u8 K (upd σ' i o) id l := h.mono (hs.updK hn)
set_option maxRecDepth 100000 in
theorem write_c (l : List Fl) (hl : l.length ≤ 1000000) : PFun Tryd.prog 8 [encFl l] (writeV l) := fun σ => by
  refine Contract.of_runs Tryd.func8 e8 k8 (by simp [c8]) ?_
  refine Runs.mix 9 ?_
  (refine Runs.of_step Orc.nothing 300 ?_; simp -implicitDefEqProofs only [BB, Int.reduceEq, Int.reduceNe, Int.reduceLT, Int.reduceLE, Int.reduceGT, Int.reduceGE, Nat.reduceEqDiff, Nat.reduceAdd, Nat.reduceMul, Nat.reduceLeDiff, Nat.reduceSub, Nat.reduceLT, Nat.reduceBEq, ↓reduceIte, reduceCtorEq, ← decide_not, okind, vpre, vpure, intBin, intPre, strBin, strPre, popTo, argSlots, fldV, fldAV, subCells, idxVV, idxAAV, idxSV, sliceV, sliceSV, boundV, szIs, storeOp, storeS, setRowV, eff, extV, buildV, splice, eqSV, fitsL, eqCells, eqCell, minmaxV, capV, binBV, nilCheckV, bytesV, V.cells, V.stays, Orc.nothing, c8, len_encFl])
  refine effR_new fun id4 σ1 s1 a4 f4 => ?_
  simp -implicitDefEqProofs only [BB, Int.reduceEq, Int.reduceNe, Int.reduceLT, Int.reduceLE, Int.reduceGT, Int.reduceGE, Nat.reduceEqDiff, Nat.reduceAdd, Nat.reduceMul, Nat.reduceLeDiff, Nat.reduceSub, Nat.reduceLT, Nat.reduceBEq, ↓reduceIte, reduceCtorEq, ← decide_not, okind, vpre, vpure, intBin, intPre, strBin, strPre, popTo, argSlots, fldV, fldAV, subCells, idxVV, idxAAV, idxSV, sliceV, sliceSV, boundV, szIs, storeOp, storeS, setRowV, eff, extV, buildV, splice, eqSV, fitsL, eqCells, eqCell, minmaxV, capV, binBV, nilCheckV, bytesV, V.cells, V.stays, a4, len_encFl]
  have hB0 : IsBd σ σ1 id4 [] := IsB.start s1 f4 a4
  refine Runs.loop (fun m st => ∃ i : Nat, i ≤ l.length ∧ m = l.length - i ∧ IsBd σ st.σ id4 (textT (l.take i)) ∧ (textT (l.take i) = [] → ∃ a, st.σ id4 = some (bRow 51 a .nils)) ∧ (∀ x ∈ l.take i, rightB x = true) ∧
    st.s 2 = .str [] ∧ st.s 3 = vI 0 ∧ st.s 4 = .ptr id4 0 0 ∧ st.s 9 = encFl l ∧ st.s 10 = vI l.length ∧ st.s 11 = vI i) l.length ?_ ?_
  · exact ⟨0, by omega, by omega, hB0, fun _ => ⟨_, a4⟩, by simp, rfl, rfl, rfl, rfl, rfl, rfl⟩
  · rintro m ⟨s', σ'⟩ ⟨i, hi, rfl, hB, hnil, hall, h2, h3, h4, h9, h10, h11⟩
    simp only at hB hnil h2 h3 h4 h9 h10 h11
    refine Runs.mix 12 ?_
    by_cases hlt : i < l.length
    · have hlt' : ((i : Int) < (l.length : Int)) = True := by simp; omega
      have hidx := idx_encFl (σ := σ') hlt
      have htk : l.take (i + 1) = l.take i ++ [l[i]] := by rw [List.take_add_one, List.getElem?_eq_getElem hlt]; rfl
      have hsplit : l = l.take i ++ l[i] :: l.drop (i + 1) := by rw [List.getElem_cons_drop, List.take_append_drop]
      have htl : (l.take i).length = i := by simp; omega
      generalize l[i] = x at *
      (refine Runs.of_step Orc.nothing 300 ?_; simp -implicitDefEqProofs only [BB, Int.reduceEq, Int.reduceNe, Int.reduceLT, Int.reduceLE, Int.reduceGT, Int.reduceGE, Nat.reduceEqDiff, Nat.reduceAdd, Nat.reduceMul, Nat.reduceLeDiff, Nat.reduceSub, Nat.reduceLT, Nat.reduceBEq, ↓reduceIte, reduceCtorEq, ← decide_not, okind, vpre, vpure, intBin, intPre, strBin, strPre, popTo, argSlots, fldV, fldAV, subCells, idxVV, idxAAV, idxSV, sliceV, sliceSV, boundV, szIs, storeOp, storeS, setRowV, eff, extV, buildV, splice, eqSV, fitsL, eqCells, eqCell, minmaxV, capV, binBV, nilCheckV, bytesV, V.cells, V.stays, Orc.nothing, h2, h3, h4, h9, h10, h11, hlt', hidx, loadV_rp_F])
      refine effR_new fun id6 σ5 s5 a6 f6 => ?_
      simp -implicitDefEqProofs only [BB, Int.reduceEq, Int.reduceNe, Int.reduceLT, Int.reduceLE, Int.reduceGT, Int.reduceGE, Nat.reduceEqDiff, Nat.reduceAdd, Nat.reduceMul, Nat.reduceLeDiff, Nat.reduceSub, Nat.reduceLT, Nat.reduceBEq, ↓reduceIte, reduceCtorEq, ← decide_not, okind, vpre, vpure, intBin, intPre, strBin, strPre, popTo, argSlots, fldV, fldAV, subCells, idxVV, idxAAV, idxSV, sliceV, sliceSV, boundV, szIs, storeOp, storeS, setRowV, eff, extV, buildV, splice, eqSV, fitsL, eqCells, eqCell, minmaxV, capV, binBV, nilCheckV, bytesV, V.cells, V.stays, a6, encF, h2, h3, h4, h9, h10, h11]
      refine Runs.pcall rfl rfl rfl (right_c x _) ?_
      by_cases hr : rightB x = true
      · have hB6 : IsBd σ (upd σ5 id6 ⟨24, 4, [encF x]⟩) id4 (textT (l.take i)) := hB.new' s5 f6
        have hix : ∀ j : Nat, j < 4 → idxVV false 4 1 (.agg [vI x.no, vI x.kind, vI x.used, vI x.free]) (vI j) = some (vI ((numsF x).getD j 0)) := by
          intro j hj
          have : j = 0 ∨ j = 1 ∨ j = 2 ∨ j = 3 := by omega
          rcases this with rfl | rfl | rfl | rfl <;> rfl
        have hnl : (numsF x).length = 4 := rfl
        have hnums := right_nums hr
        have htx := textT_len (l.take i) hall
        (refine Runs.of_step Orc.nothing 300 ?_; simp -implicitDefEqProofs only [BB, Int.reduceEq, Int.reduceNe, Int.reduceLT, Int.reduceLE, Int.reduceGT, Int.reduceGE, Nat.reduceEqDiff, Nat.reduceAdd, Nat.reduceMul, Nat.reduceLeDiff, Nat.reduceSub, Nat.reduceLT, Nat.reduceBEq, ↓reduceIte, reduceCtorEq, ← decide_not, okind, vpre, vpure, intBin, intPre, strBin, strPre, popTo, argSlots, fldV, fldAV, subCells, idxVV, idxAAV, idxSV, sliceV, sliceSV, boundV, szIs, storeOp, storeS, setRowV, eff, extV, buildV, splice, eqSV, fitsL, eqCells, eqCell, minmaxV, capV, binBV, nilCheckV, bytesV, V.cells, V.stays, Orc.nothing, hr, h2, h3, h4, h9, h10, h11, upd_same])
        refine Runs.loop (fun m st => ∃ j : Nat, j ≤ 4 ∧ m = 4 - j ∧ IsBd σ st.σ id4 (textT (l.take i) ++ joinT ((numsF x).take j)) ∧ (j = 0 → textT (l.take i) = [] → ∃ a, st.σ id4 = some (bRow 51 a .nils)) ∧
          st.s 2 = .str [] ∧ st.s 3 = vI 0 ∧ st.s 4 = .ptr id4 0 0 ∧ st.s 9 = encFl l ∧ st.s 10 = vI l.length ∧ st.s 11 = vI i ∧ st.s 26 = .agg [vI x.no, vI x.kind, vI x.used, vI x.free] ∧ st.s 27 = vI j) 4 ?_ ?_
        · refine ⟨0, by omega, by omega, by simpa [joinT, encF] using hB6, fun _ h => ?_, h2, h3, h4, h9, h10, h11, rfl, rfl⟩
          obtain ⟨a, ha⟩ := hnil h
          exact ⟨a, (upd_ne (ne_new ha f6)).trans (s5 _ _ ha)⟩
        · rintro m ⟨s2', σ7⟩ ⟨j, hj, rfl, hB7, hnil7, g2, g3, g4, g9, g10, g11, g26, g27⟩
          simp only at hB7 hnil7 g2 g3 g4 g9 g10 g11 g26 g27
          refine Runs.mix 27 ?_
          have hjl : (joinT ((numsF x).take j)).length ≤ 88 := by
            have := joinT_len ((numsF x).take j) (fun n hn => hnums n (List.mem_of_mem_take hn))
            have h4' : ((numsF x).take j).length ≤ 4 := by rw [List.length_take]; omega
            omega
          by_cases hjt : j < 4
          · have hjt' : ((j : Int) < 4) = True := by simp; omega
            have hx := hix j hjt
            have hmem : (numsF x).getD j 0 ∈ numsF x := by
              have : j = 0 ∨ j = 1 ∨ j = 2 ∨ j = 3 := by omega
              rcases this with rfl | rfl | rfl | rfl <;> simp [numsF]
            have hnj := hnums _ hmem
            have hjoin : joinT ((numsF x).take (j + 1)) = if j = 0 then Lib.itoa ((numsF x).getD j 0) else joinT ((numsF x).take j) ++ 32 :: Lib.itoa ((numsF x).getD j 0) := by
              have : j = 0 ∨ j = 1 ∨ j = 2 ∨ j = 3 := by omega
              rcases this with rfl | rfl | rfl | rfl <;> simp [joinT, numsF]
            generalize (numsF x).getD j 0 = nj at hx hnj hjoin
            have hil := itoa_len hnj
            have r1 : inR .i64 ((j : Int) + 1) := inR_i64 (by omega) (by omega)
            by_cases hj0 : j = 0
            · subst hj0
              have hgt : (((0 : Nat) : Int) > 0) = False := by simp
              (refine Runs.of_step Orc.nothing 300 ?_; simp -implicitDefEqProofs only [BB, Int.reduceEq, Int.reduceNe, Int.reduceLT, Int.reduceLE, Int.reduceGT, Int.reduceGE, Nat.reduceEqDiff, Nat.reduceAdd, Nat.reduceMul, Nat.reduceLeDiff, Nat.reduceSub, Nat.reduceLT, Nat.reduceBEq, ↓reduceIte, reduceCtorEq, ← decide_not, okind, vpre, vpure, intBin, intPre, strBin, strPre, popTo, argSlots, fldV, fldAV, subCells, idxAAV, idxSV, sliceV, sliceSV, boundV, szIs, storeOp, storeS, setRowV, eff, extV, buildV, splice, eqSV, fitsL, eqCells, eqCell, minmaxV, capV, binBV, nilCheckV, bytesV, V.cells, V.stays, Orc.nothing, g2, g3, g4, g9, g10, g11, g26, g27, hjt', hx, hgt])
              refine Runs.pcall rfl rfl rfl (itoaN_c _ (by omega) (by omega) _) ?_
              (refine Runs.of_step Orc.nothing 300 ?_; simp -implicitDefEqProofs only [BB, Int.reduceEq, Int.reduceNe, Int.reduceLT, Int.reduceLE, Int.reduceGT, Int.reduceGE, Nat.reduceEqDiff, Nat.reduceAdd, Nat.reduceMul, Nat.reduceLeDiff, Nat.reduceSub, Nat.reduceLT, Nat.reduceBEq, ↓reduceIte, reduceCtorEq, ← decide_not, okind, vpre, vpure, intBin, intPre, strBin, strPre, popTo, argSlots, fldV, fldAV, subCells, idxVV, idxAAV, idxSV, sliceV, sliceSV, boundV, szIs, storeOp, storeS, setRowV, eff, extV, buildV, splice, eqSV, fitsL, eqCells, eqCell, minmaxV, capV, binBV, nilCheckV, bytesV, V.cells, V.stays, Orc.nothing, g2, g3, g4, g9, g10, g11, g26, g27])
              have hc := wstr_c (Lib.itoa nj) hB7 (by simp [joinT]; omega)
              rw [← g4] at hc
              refine Runs.call rfl rfl rfl hc ?_
              rintro r σ8 ⟨rfl, hB8⟩
              (refine Runs.of_step Orc.nothing 300 ?_; simp -implicitDefEqProofs only [BB, Int.reduceEq, Int.reduceNe, Int.reduceLT, Int.reduceLE, Int.reduceGT, Int.reduceGE, Nat.reduceEqDiff, Nat.reduceAdd, Nat.reduceMul, Nat.reduceLeDiff, Nat.reduceSub, Nat.reduceLT, Nat.reduceBEq, ↓reduceIte, reduceCtorEq, ← decide_not, okind, vpre, vpure, intBin, intPre, strBin, strPre, popTo, argSlots, fldV, fldAV, subCells, idxVV, idxAAV, idxSV, sliceV, sliceSV, boundV, szIs, storeOp, storeS, setRowV, eff, extV, buildV, splice, eqSV, fitsL, eqCells, eqCell, minmaxV, capV, binBV, nilCheckV, bytesV, V.cells, V.stays, Orc.nothing, g2, g3, g4, g9, g10, g11, g26, g27, r1])
              refine ⟨_, by omega, 1, by omega, rfl, ?_, by simp, by simp [g2, g3, g4, g9, g10, g11, g26]⟩
              rw [hjoin, if_pos rfl]; simpa [joinT] using hB8
            · have hgt : ((j : Int) > 0) = True := by simp; omega
              (refine Runs.of_step Orc.nothing 300 ?_; simp -implicitDefEqProofs only [BB, Int.reduceEq, Int.reduceNe, Int.reduceLT, Int.reduceLE, Int.reduceGT, Int.reduceGE, Nat.reduceEqDiff, Nat.reduceAdd, Nat.reduceMul, Nat.reduceLeDiff, Nat.reduceSub, Nat.reduceLT, Nat.reduceBEq, ↓reduceIte, reduceCtorEq, ← decide_not, okind, vpre, vpure, intBin, intPre, strBin, strPre, popTo, argSlots, fldV, fldAV, subCells, idxAAV, idxSV, sliceV, sliceSV, boundV, szIs, storeOp, storeS, setRowV, eff, extV, buildV, splice, eqSV, fitsL, eqCells, eqCell, minmaxV, capV, binBV, nilCheckV, bytesV, V.cells, V.stays, Orc.nothing, g2, g3, g4, g9, g10, g11, g26, g27, hjt', hx, hgt])
              have hc := wbyte_c 32 32 rfl hB7 (by simp; omega)
              rw [← g4] at hc
              refine Runs.call rfl rfl rfl hc ?_
              rintro r σ8 ⟨rfl, hB8⟩
              (refine Runs.of_step Orc.nothing 300 ?_; simp -implicitDefEqProofs only [BB, Int.reduceEq, Int.reduceNe, Int.reduceLT, Int.reduceLE, Int.reduceGT, Int.reduceGE, Nat.reduceEqDiff, Nat.reduceAdd, Nat.reduceMul, Nat.reduceLeDiff, Nat.reduceSub, Nat.reduceLT, Nat.reduceBEq, ↓reduceIte, reduceCtorEq, ← decide_not, okind, vpre, vpure, intBin, intPre, strBin, strPre, popTo, argSlots, fldV, fldAV, subCells, idxVV, idxAAV, idxSV, sliceV, sliceSV, boundV, szIs, storeOp, storeS, setRowV, eff, extV, buildV, splice, eqSV, fitsL, eqCells, eqCell, minmaxV, capV, binBV, nilCheckV, bytesV, V.cells, V.stays, Orc.nothing, g2, g3, g4, g9, g10, g11, g26, g27])
              refine Runs.pcall rfl rfl rfl (itoaN_c _ (by omega) (by omega) _) ?_
              (refine Runs.of_step Orc.nothing 300 ?_; simp -implicitDefEqProofs only [BB, Int.reduceEq, Int.reduceNe, Int.reduceLT, Int.reduceLE, Int.reduceGT, Int.reduceGE, Nat.reduceEqDiff, Nat.reduceAdd, Nat.reduceMul, Nat.reduceLeDiff, Nat.reduceSub, Nat.reduceLT, Nat.reduceBEq, ↓reduceIte, reduceCtorEq, ← decide_not, okind, vpre, vpure, intBin, intPre, strBin, strPre, popTo, argSlots, fldV, fldAV, subCells, idxVV, idxAAV, idxSV, sliceV, sliceSV, boundV, szIs, storeOp, storeS, setRowV, eff, extV, buildV, splice, eqSV, fitsL, eqCells, eqCell, minmaxV, capV, binBV, nilCheckV, bytesV, V.cells, V.stays, Orc.nothing, g2, g3, g4, g9, g10, g11, g26, g27])
              have hc := wstr_c (Lib.itoa nj) hB8 (by simp; omega)
              rw [← g4] at hc
              refine Runs.call rfl rfl rfl hc ?_
              rintro r σ9 ⟨rfl, hB9⟩
              (refine Runs.of_step Orc.nothing 300 ?_; simp -implicitDefEqProofs only [BB, Int.reduceEq, Int.reduceNe, Int.reduceLT, Int.reduceLE, Int.reduceGT, Int.reduceGE, Nat.reduceEqDiff, Nat.reduceAdd, Nat.reduceMul, Nat.reduceLeDiff, Nat.reduceSub, Nat.reduceLT, Nat.reduceBEq, ↓reduceIte, reduceCtorEq, ← decide_not, okind, vpre, vpure, intBin, intPre, strBin, strPre, popTo, argSlots, fldV, fldAV, subCells, idxVV, idxAAV, idxSV, sliceV, sliceSV, boundV, szIs, storeOp, storeS, setRowV, eff, extV, buildV, splice, eqSV, fitsL, eqCells, eqCell, minmaxV, capV, binBV, nilCheckV, bytesV, V.cells, V.stays, Orc.nothing, g2, g3, g4, g9, g10, g11, g26, g27, r1])
              refine ⟨_, by omega, j + 1, by omega, rfl, ?_, by simp, by simp [g2, g3, g4, g9, g10, g11, g26]⟩
              rw [hjoin, if_neg hj0]; simpa using hB9
          · have hjt' : ((j : Int) < 4) = False := by simp; omega
            obtain rfl : j = 4 := by omega
            have r1 : inR .i64 ((i : Int) + 1) := inR_i64 (by omega) (by omega)
            (refine Runs.of_step Orc.nothing 300 ?_; simp -implicitDefEqProofs only [BB, Int.reduceEq, Int.reduceNe, Int.reduceLT, Int.reduceLE, Int.reduceGT, Int.reduceGE, Nat.reduceEqDiff, Nat.reduceAdd, Nat.reduceMul, Nat.reduceLeDiff, Nat.reduceSub, Nat.reduceLT, Nat.reduceBEq, ↓reduceIte, reduceCtorEq, ← decide_not, okind, vpre, vpure, intBin, intPre, strBin, strPre, popTo, argSlots, fldV, fldAV, subCells, idxVV, idxAAV, idxSV, sliceV, sliceSV, boundV, szIs, storeOp, storeS, setRowV, eff, extV, buildV, splice, eqSV, fitsL, eqCells, eqCell, minmaxV, capV, binBV, nilCheckV, bytesV, V.cells, V.stays, Orc.nothing, g2, g3, g4, g9, g10, g11, g26, g27, hjt'])
            have hc := wbyte_c 10 10 rfl hB7 (by simp; omega)
            rw [← g4] at hc
            refine Runs.call rfl rfl rfl hc ?_
            rintro r σ8 ⟨rfl, hB8⟩
            (refine Runs.of_step Orc.nothing 300 ?_; simp -implicitDefEqProofs only [BB, Int.reduceEq, Int.reduceNe, Int.reduceLT, Int.reduceLE, Int.reduceGT, Int.reduceGE, Nat.reduceEqDiff, Nat.reduceAdd, Nat.reduceMul, Nat.reduceLeDiff, Nat.reduceSub, Nat.reduceLT, Nat.reduceBEq, ↓reduceIte, reduceCtorEq, ← decide_not, okind, vpre, vpure, intBin, intPre, strBin, strPre, popTo, argSlots, fldV, fldAV, subCells, idxVV, idxAAV, idxSV, sliceV, sliceSV, boundV, szIs, storeOp, storeS, setRowV, eff, extV, buildV, splice, eqSV, fitsL, eqCells, eqCell, minmaxV, capV, binBV, nilCheckV, bytesV, V.cells, V.stays, Orc.nothing, g2, g3, g4, g9, g10, g11, r1])
            have htt : textT (l.take (i + 1)) = textT (l.take i) ++ joinT ((numsF x).take 4) ++ [10] := by
              rw [htk]; simp [textT, lineT, numsF]
            refine ⟨_, ?_, i + 1, by omega, rfl, by rw [htt]; exact hB8, fun h => by rw [htt] at h; simp at h, ?_, by simp [g2, g3, g4, g9, g10]⟩
            · omega
            · rw [htk]; intro y hy
              rcases List.mem_append.1 hy with hy | hy
              · exact hall y hy
              · simp at hy; rw [hy]; exact hr
      · have hr' : rightB x = false := by simpa using hr
        have hw : writeV l = .tup [.str [], vI 4] := by
          unfold writeV
          rw [if_neg (by rw [hsplit]; simp [hr'])]
        (refine Runs.of_step Orc.nothing 300 ?_; simp -implicitDefEqProofs only [BB, Int.reduceEq, Int.reduceNe, Int.reduceLT, Int.reduceLE, Int.reduceGT, Int.reduceGE, Nat.reduceEqDiff, Nat.reduceAdd, Nat.reduceMul, Nat.reduceLeDiff, Nat.reduceSub, Nat.reduceLT, Nat.reduceBEq, ↓reduceIte, reduceCtorEq, ← decide_not, okind, vpre, vpure, intBin, intPre, strBin, strPre, popTo, argSlots, fldV, fldAV, subCells, idxVV, idxAAV, idxSV, sliceV, sliceSV, boundV, szIs, storeOp, storeS, setRowV, eff, extV, buildV, splice, eqSV, fitsL, eqCells, eqCell, minmaxV, capV, binBV, nilCheckV, bytesV, V.cells, V.stays, Orc.nothing, hr', h2, h3, h4, h9, h10, h11])
        rw [hw]
        exact RetV.pure ((hB.sub.trans s5).updK (hB.sub.none f6)) rfl
    · have hlt' : ((i : Int) < (l.length : Int)) = False := by simp; omega
      obtain rfl : i = l.length := by omega
      rw [List.take_length] at hB hnil hall
      (refine Runs.of_step Orc.nothing 300 ?_; simp -implicitDefEqProofs only [BB, Int.reduceEq, Int.reduceNe, Int.reduceLT, Int.reduceLE, Int.reduceGT, Int.reduceGE, Nat.reduceEqDiff, Nat.reduceAdd, Nat.reduceMul, Nat.reduceLeDiff, Nat.reduceSub, Nat.reduceLT, Nat.reduceBEq, ↓reduceIte, reduceCtorEq, ← decide_not, okind, vpre, vpure, intBin, intPre, strBin, strPre, popTo, argSlots, fldV, fldAV, subCells, idxVV, idxAAV, idxSV, sliceV, sliceSV, boundV, szIs, storeOp, storeS, setRowV, eff, extV, buildV, splice, eqSV, fitsL, eqCells, eqCell, minmaxV, capV, binBV, nilCheckV, bytesV, V.cells, V.stays, Orc.nothing, h2, h3, h4, h9, h10, h11, hlt'])
      have hc := bstr_c hB hnil
      rw [← h4] at hc
      refine Runs.call rfl rfl rfl hc ?_
      rintro r σ6 ⟨rfl, rfl⟩
      (refine Runs.of_step Orc.nothing 300 ?_; simp -implicitDefEqProofs only [BB, Int.reduceEq, Int.reduceNe, Int.reduceLT, Int.reduceLE, Int.reduceGT, Int.reduceGE, Nat.reduceEqDiff, Nat.reduceAdd, Nat.reduceMul, Nat.reduceLeDiff, Nat.reduceSub, Nat.reduceLT, Nat.reduceBEq, ↓reduceIte, reduceCtorEq, ← decide_not, okind, vpre, vpure, intBin, intPre, strBin, strPre, popTo, argSlots, fldV, fldAV, subCells, idxVV, idxAAV, idxSV, sliceV, sliceSV, boundV, szIs, storeOp, storeS, setRowV, eff, extV, buildV, splice, eqSV, fitsL, eqCells, eqCell, minmaxV, capV, binBV, nilCheckV, bytesV, V.cells, V.stays, Orc.nothing])
      have hw : writeV l = .tup [.str (textT l), vI 0] := by
        unfold writeV
        rw [if_pos (by simpa using hall)]
      rw [hw]
      exact RetV.same rfl
end Go.Vc
namespace Go.Vc
open Go.Proofs
theorem eq_encF (neg : Bool) (t u : Fl) : eqSV neg [0, 0, 0, 0] (encF t) (encF u) = some (.bool (if neg then !decide (t = u) else decide (t = u))) := by
  have h2 : eqCells [vI t.no, vI t.kind, vI t.used, vI t.free] [vI u.no, vI u.kind, vI u.used, vI u.free] = some (decide (t = u)) := by
    simp only [eqCells, eqCell, if_true, Option.some.injEq, Bool.and_true]
    rw [Bool.eq_iff_iff]
    cases t; cases u
    simp
  unfold encF
  simp only [eqSV]
  rw [if_pos ⟨rfl, rfl⟩, h2]
  all_goals rfl
set_option maxRecDepth 100000 in
theorem same13_c (a b : List Fl) (ha : a.length ≤ 1000000000) : PFun Tryd.prog 13 [encFl a, encFl b] (.bool (decide (a = b))) := fun σ => by
  refine Contract.of_runs Tryd.func13 e13 k13 (by simp [c13]) ?_
  refine Runs.mix 6 ?_
  by_cases hl : a.length = b.length
  · have q1 : ((a.length : Int) ≠ (b.length : Int)) = False := by simp; omega
    (refine Runs.of_step Orc.nothing 300 ?_; simp -implicitDefEqProofs only [BB, effR_some, effD_some, Int.reduceEq, Int.reduceNe, Int.reduceLT, Int.reduceLE, Int.reduceGT, Int.reduceGE, Nat.reduceEqDiff, Nat.reduceAdd, Nat.reduceMul, Nat.reduceLeDiff, Nat.reduceSub, Nat.reduceLT, Nat.reduceBEq, ↓reduceIte, reduceCtorEq, ← decide_not, okind, vpre, vpure, intBin, intPre, strBin, strPre, popTo, argSlots, fldV, fldAV, subCells, idxVV, idxAAV, idxSV, sliceV, sliceSV, boundV, szIs, storeOp, storeS, setRowV, eff, extV, buildV, splice, eqSV, fitsL, eqCells, eqCell, minmaxV, capV, binBV, nilCheckV, bytesV, V.cells, V.stays, Orc.nothing, c13, len_encFl, q1])
    refine Runs.loop (fun m st => ∃ i : Nat, i ≤ a.length ∧ m = a.length - i ∧ decide (a = b) = decide (a.drop i = b.drop i) ∧ st.σ = σ ∧ st.s 0 = encFl a ∧ st.s 1 = encFl b ∧ st.s 5 = vI i) a.length ?_ ?_
    · exact ⟨0, by omega, by omega, rfl, rfl, rfl, rfl, rfl⟩
    · rintro m ⟨s', σ'⟩ ⟨i, hi, rfl, hp, hσ, h0, h1, h5⟩
      simp only at hσ h0 h1 h5
      subst hσ
      refine Runs.mix 6 ?_
      by_cases hlt : i < a.length
      · have hlt' : ((i : Int) < (a.length : Int)) = True := by simp; omega
        have hltb : i < b.length := by omega
        have hin : inR .i64 ((i : Int) + 1) := inR_i64 (by omega) (by omega)
        have da := List.drop_eq_getElem_cons hlt
        have db := List.drop_eq_getElem_cons hltb
        have ia := idx_encFl (σ := σ') hlt
        have ib := idx_encFl (σ := σ') hltb
        rw [da, db] at hp
        by_cases he : a[i] = b[i]
        · have hq : eqSV true [0, 0, 0, 0] (encF a[i]) (encF b[i]) = some (.bool false) := by rw [eq_encF]; simp [he]
          (refine Runs.of_step Orc.nothing 300 ?_; simp -implicitDefEqProofs only [BB, effR_some, effD_some, Int.reduceEq, Int.reduceNe, Int.reduceLT, Int.reduceLE, Int.reduceGT, Int.reduceGE, Nat.reduceEqDiff, Nat.reduceAdd, Nat.reduceMul, Nat.reduceLeDiff, Nat.reduceSub, Nat.reduceLT, Nat.reduceBEq, ↓reduceIte, reduceCtorEq, ← decide_not, okind, vpre, vpure, intBin, intPre, strBin, strPre, popTo, argSlots, fldV, fldAV, subCells, idxVV, idxAAV, idxSV, sliceV, sliceSV, boundV, szIs, storeOp, storeS, setRowV, eff, extV, buildV, splice, fitsL, eqCells, eqCell, minmaxV, capV, binBV, nilCheckV, bytesV, V.cells, V.stays, Orc.nothing, h0, h1, h5, len_encFl, hlt', hq, ia, ib, loadV_rp_F, hin])
          refine ⟨_, by omega, i + 1, by omega, rfl, ?_, by simp⟩
          rw [hp]; simp only [List.cons.injEq, he, true_and]
        · have hq : eqSV true [0, 0, 0, 0] (encF a[i]) (encF b[i]) = some (.bool true) := by rw [eq_encF]; simp [he]
          (refine Runs.of_step Orc.nothing 300 ?_; simp -implicitDefEqProofs only [BB, effR_some, effD_some, Int.reduceEq, Int.reduceNe, Int.reduceLT, Int.reduceLE, Int.reduceGT, Int.reduceGE, Nat.reduceEqDiff, Nat.reduceAdd, Nat.reduceMul, Nat.reduceLeDiff, Nat.reduceSub, Nat.reduceLT, Nat.reduceBEq, ↓reduceIte, reduceCtorEq, ← decide_not, okind, vpre, vpure, intBin, intPre, strBin, strPre, popTo, argSlots, fldV, fldAV, subCells, idxVV, idxAAV, idxSV, sliceV, sliceSV, boundV, szIs, storeOp, storeS, setRowV, eff, extV, buildV, splice, fitsL, eqCells, eqCell, minmaxV, capV, binBV, nilCheckV, bytesV, V.cells, V.stays, Orc.nothing, h0, h1, h5, len_encFl, hlt', hq, ia, ib, loadV_rp_F])
          refine RetV.same ?_
          rw [hp]; simp only [List.cons.injEq, he, false_and, decide_false]
      · have hlt' : ((i : Int) < (a.length : Int)) = False := by simp; omega
        (refine Runs.of_step Orc.nothing 300 ?_; simp -implicitDefEqProofs only [BB, effR_some, effD_some, Int.reduceEq, Int.reduceNe, Int.reduceLT, Int.reduceLE, Int.reduceGT, Int.reduceGE, Nat.reduceEqDiff, Nat.reduceAdd, Nat.reduceMul, Nat.reduceLeDiff, Nat.reduceSub, Nat.reduceLT, Nat.reduceBEq, ↓reduceIte, reduceCtorEq, ← decide_not, okind, vpre, vpure, intBin, intPre, strBin, strPre, popTo, argSlots, fldV, fldAV, subCells, idxVV, idxAAV, idxSV, sliceV, sliceSV, boundV, szIs, storeOp, storeS, setRowV, eff, extV, buildV, splice, eqSV, fitsL, eqCells, eqCell, minmaxV, capV, binBV, nilCheckV, bytesV, V.cells, V.stays, Orc.nothing, h0, h1, h5, len_encFl, hlt'])
        refine RetV.same ?_
        rw [hp, List.drop_eq_nil_of_le (by omega), List.drop_eq_nil_of_le (by omega)]; rfl
  · have q1 : ((a.length : Int) ≠ (b.length : Int)) = True := by simp; omega
    (refine Runs.of_step Orc.nothing 300 ?_; simp -implicitDefEqProofs only [BB, effR_some, effD_some, Int.reduceEq, Int.reduceNe, Int.reduceLT, Int.reduceLE, Int.reduceGT, Int.reduceGE, Nat.reduceEqDiff, Nat.reduceAdd, Nat.reduceMul, Nat.reduceLeDiff, Nat.reduceSub, Nat.reduceLT, Nat.reduceBEq, ↓reduceIte, reduceCtorEq, ← decide_not, okind, vpre, vpure, intBin, intPre, strBin, strPre, popTo, argSlots, fldV, fldAV, subCells, idxVV, idxAAV, idxSV, sliceV, sliceSV, boundV, szIs, storeOp, storeS, setRowV, eff, extV, buildV, splice, eqSV, fitsL, eqCells, eqCell, minmaxV, capV, binBV, nilCheckV, bytesV, V.cells, V.stays, Orc.nothing, c13, len_encFl, q1])
    exact RetV.same (by rw [decide_eq_false (fun e => hl (by rw [e]))])
def fulR (i : Nat) (n : Int) : Fl := if n = 0 then ⟨i + 1, 3, 0, 10⟩ else ⟨i + 1, 1, n, 10 - n⟩
def fulL : Nat → List Int → List Fl
  | _, [] => []
  | i, n :: l => fulR i n :: fulL (i + 1) l
theorem fulL_snoc (n : Int) : ∀ (l : List Int) (i : Nat), fulL i (l ++ [n]) = fulL i l ++ [fulR (i + l.length) n]
  | [], i => rfl
  | y :: l, i => by
    rw [List.cons_append, fulL, fulL_snoc n l (i + 1), fulL, List.length_cons, show i + 1 + l.length = i + (l.length + 1) by omega]; rfl
theorem fulL_len : ∀ (l : List Int) (i : Nat), (fulL i l).length = l.length
  | [], _ => rfl
  | y :: l, i => by simp [fulL, fulL_len l (i + 1)]
set_option maxRecDepth 100000 in
theorem ful_g (l : List Int) (hl : l.length ≤ 1000000) (hr : ∀ n ∈ l, 0 ≤ n ∧ n ≤ 1000) (σ : Store) (A : V) (p : Nat → V) (hlen : lenV false A = some (vI l.length)) (hix : ∀ σ', SubStore σ σ' → ∀ i, i < l.length → idxAV σ' 1 A (vI i) = some (p i))
    (hld : ∀ σ', SubStore σ σ' → ∀ i, ∀ h : i < l.length, loadV σ' false 1 (p i) = some (vI l[i])) : Contract Tryd.prog 15 [A] σ fun r σ' => r = encFl (fulL 0 l) ∧ σ' = σ := by
  refine Contract.of_runs Tryd.func15 e15 k15 (by simp [c15]) ?_
  refine Runs.mix 6 ?_
  (refine Runs.of_step Orc.nothing 300 ?_; simp -implicitDefEqProofs only [BB, effR_some, effD_some, Int.reduceEq, Int.reduceNe, Int.reduceLT, Int.reduceLE, Int.reduceGT, Int.reduceGE, Nat.reduceEqDiff, Nat.reduceAdd, Nat.reduceMul, Nat.reduceLeDiff, Nat.reduceSub, Nat.reduceLT, Nat.reduceBEq, ↓reduceIte, reduceCtorEq, ← decide_not, okind, vpre, vpure, intBin, intPre, strBin, strPre, popTo, argSlots, fldV, fldAV, subCells, idxVV, idxAAV, idxSV, sliceV, sliceSV, boundV, szIs, storeOp, storeS, setRowV, eff, extV, buildV, splice, eqSV, fitsL, eqCells, eqCell, minmaxV, capV, binBV, nilCheckV, bytesV, V.cells, V.stays, Orc.nothing, c15])
  refine Runs.loop (fun m st => ∃ i : Nat, i ≤ l.length ∧ m = l.length - i ∧ SubStore σ st.σ ∧ OutV σ st.σ 24 4 (st.s 3) ((fulL 0 (l.take i)).map encF) ∧ st.s 0 = A ∧ st.s 4 = vI i) l.length ?_ ?_
  · exact ⟨0, by omega, by omega, SubStore.refl σ, OutV.start, rfl, rfl⟩
  · rintro m ⟨s', σ'⟩ ⟨i, hi, rfl, hsub, hout, h0, h4⟩
    simp only at hsub hout h0 h4
    generalize hv3 : s' 3 = v3 at *
    refine Runs.mix 6 ?_
    by_cases hlt : i < l.length
    · have hlt' : ((i : Int) < (l.length : Int)) = True := by simp; omega
      have x1 := hix σ' hsub i hlt
      have y1 := hld σ' hsub i hlt
      have hn := hr l[i] (List.getElem_mem hlt)
      have r1 : inR .i64 ((i : Int) + 1) := inR_i64 (by omega) (by omega)
      have r2 : inR .i64 (10 - l[i]) := inR_i64 (by omega) (by omega)
      have htk : l.take (i + 1) = l.take i ++ [l[i]] := by rw [List.take_add_one, List.getElem?_eq_getElem hlt]; rfl
      have hsn : fulL 0 (l.take (i + 1)) = fulL 0 (l.take i) ++ [fulR i l[i]] := by
        rw [htk, fulL_snoc, List.length_take, show 0 + min i l.length = i by omega]
      have hll : (fulL 0 (l.take i)).length = i := by rw [fulL_len]; simp; omega
      have hixn : ∀ σ'', SubStore σ σ'' → idxAV σ'' 1 A (vI i) = some (p i) := fun σ'' h => hix σ'' h i hlt
      have hldn : ∀ σ'', SubStore σ σ'' → loadV σ'' false 1 (p i) = some (vI l[i]) := fun σ'' h => hld σ'' h i hlt
      generalize l[i] = n at *
      generalize hpi : p i = pi at *
      by_cases hz : n = 0
      · have hz' : (n = 0) = True := by simp [hz]
        (refine Runs.of_step Orc.nothing 300 ?_; simp -implicitDefEqProofs only [BB, Int.reduceEq, Int.reduceNe, Int.reduceLT, Int.reduceLE, Int.reduceGT, Int.reduceGE, Nat.reduceEqDiff, Nat.reduceAdd, Nat.reduceMul, Nat.reduceLeDiff, Nat.reduceSub, Nat.reduceLT, Nat.reduceBEq, ↓reduceIte, reduceCtorEq, ← decide_not, okind, vpre, vpure, intBin, intPre, strBin, strPre, popTo, argSlots, fldV, fldAV, subCells, idxVV, idxAAV, idxSV, sliceV, sliceSV, boundV, szIs, storeOp, storeS, setRowV, eff, extV, buildV, splice, eqSV, fitsL, eqCells, eqCell, minmaxV, capV, binBV, nilCheckV, bytesV, V.cells, V.stays, Orc.nothing, h0, hv3, h4, hlen, hlt', x1, y1, r1, r2, hz'])
        refine effD_new fun id5 σ5 s5 a5 f5 => ?_
        have kA := (hsub.trans s5).updK (o := ⟨24, 4, [.agg [vI (i + 1), vI 1, vI n, vI (10 - n)]]⟩) (hsub.none f5)
        have x2 := hixn _ kA
        have y2 := hldn _ kA
        simp -implicitDefEqProofs only [BB, Int.reduceEq, Int.reduceNe, Int.reduceLT, Int.reduceLE, Int.reduceGT, Int.reduceGE, Nat.reduceEqDiff, Nat.reduceAdd, Nat.reduceMul, Nat.reduceLeDiff, Nat.reduceSub, Nat.reduceLT, Nat.reduceBEq, ↓reduceIte, reduceCtorEq, ← decide_not, okind, vpre, vpure, intBin, intPre, strBin, strPre, popTo, argSlots, fldV, fldAV, subCells, idxVV, idxAAV, idxSV, sliceV, sliceSV, boundV, szIs, storeOp, storeS, setRowV, eff, extV, buildV, splice, eqSV, fitsL, eqCells, eqCell, minmaxV, capV, binBV, nilCheckV, bytesV, V.cells, V.stays, a5, h0, hv3, h4, hlen, x2, y2, hz', r1]
        have k5 := (hsub.trans s5).updK (o := ⟨24, 4, [.agg [vI (i + 1), vI 3, vI 0, vI 10]]⟩) (hsub.none f5)
        refine effR_new fun id1 σ1 s1 a1 f1 => ?_
        obtain ⟨idA, hda, hdel⟩ := hout.dst ((s5.updK f5).trans s1)
        have s2 := k5.trans s1
        have hb2 : (i + 1) * 33 ≤ 140737488355328 := by omega
        simp -implicitDefEqProofs only [BB, Int.reduceEq, Int.reduceNe, Int.reduceLT, Int.reduceLE, Int.reduceGT, Int.reduceGE, Nat.reduceEqDiff, Nat.reduceAdd, Nat.reduceMul, Nat.reduceLeDiff, Nat.reduceSub, Nat.reduceLT, Nat.reduceBEq, ↓reduceIte, reduceCtorEq, ← decide_not, okind, vpre, vpure, intBin, intPre, strBin, strPre, popTo, argSlots, fldV, fldAV, subCells, idxVV, idxAAV, idxSV, sliceV, sliceSV, boundV, szIs, storeOp, storeS, setRowV, eff, extV, buildV, splice, eqSV, fitsL, eqCells, eqCell, minmaxV, capV, binBV, nilCheckV, bytesV, V.cells, V.stays, hda, srcOne a1, List.length_map, hll, hb2, h0, h4]
        refine effR_put fun id2 σ2 s3 a2 f2 => ?_
        have s4 := (hdel σ (SubStore.refl _) σ1 s2).trans s3
        simp -implicitDefEqProofs only [BB, Int.reduceEq, Int.reduceNe, Int.reduceLT, Int.reduceLE, Int.reduceGT, Int.reduceGE, Nat.reduceEqDiff, Nat.reduceAdd, Nat.reduceMul, Nat.reduceLeDiff, Nat.reduceSub, Nat.reduceLT, Nat.reduceBEq, ↓reduceIte, reduceCtorEq, ← decide_not, okind, vpre, vpure, intBin, intPre, strBin, strPre, popTo, argSlots, fldV, fldAV, subCells, idxVV, idxAAV, idxSV, sliceV, sliceSV, boundV, szIs, storeOp, storeS, setRowV, eff, extV, buildV, splice, eqSV, fitsL, eqCells, eqCell, minmaxV, capV, binBV, nilCheckV, bytesV, V.cells, V.stays, h0, h4, r1]
        refine ⟨_, ?_, i + 1, by omega, rfl, s4, ?_, by simp [h0]⟩
        · omega
        · rw [hsn]; exact OutV.new (by simp [hll]) (by rw [a2]; simp [encF, fulR, hz]) (s2.none f2)
      · have hz' : (n = 0) = False := by simp [hz]
        (refine Runs.of_step Orc.nothing 300 ?_; simp -implicitDefEqProofs only [BB, Int.reduceEq, Int.reduceNe, Int.reduceLT, Int.reduceLE, Int.reduceGT, Int.reduceGE, Nat.reduceEqDiff, Nat.reduceAdd, Nat.reduceMul, Nat.reduceLeDiff, Nat.reduceSub, Nat.reduceLT, Nat.reduceBEq, ↓reduceIte, reduceCtorEq, ← decide_not, okind, vpre, vpure, intBin, intPre, strBin, strPre, popTo, argSlots, fldV, fldAV, subCells, idxVV, idxAAV, idxSV, sliceV, sliceSV, boundV, szIs, storeOp, storeS, setRowV, eff, extV, buildV, splice, eqSV, fitsL, eqCells, eqCell, minmaxV, capV, binBV, nilCheckV, bytesV, V.cells, V.stays, Orc.nothing, h0, hv3, h4, hlen, hlt', x1, y1, r1, r2, hz'])
        refine effD_new fun id5 σ5 s5 a5 f5 => ?_
        have kA := (hsub.trans s5).updK (o := ⟨24, 4, [.agg [vI (i + 1), vI 1, vI n, vI (10 - n)]]⟩) (hsub.none f5)
        have x2 := hixn _ kA
        have y2 := hldn _ kA
        simp -implicitDefEqProofs only [BB, Int.reduceEq, Int.reduceNe, Int.reduceLT, Int.reduceLE, Int.reduceGT, Int.reduceGE, Nat.reduceEqDiff, Nat.reduceAdd, Nat.reduceMul, Nat.reduceLeDiff, Nat.reduceSub, Nat.reduceLT, Nat.reduceBEq, ↓reduceIte, reduceCtorEq, ← decide_not, okind, vpre, vpure, intBin, intPre, strBin, strPre, popTo, argSlots, fldV, fldAV, subCells, idxVV, idxAAV, idxSV, sliceV, sliceSV, boundV, szIs, storeOp, storeS, setRowV, eff, extV, buildV, splice, eqSV, fitsL, eqCells, eqCell, minmaxV, capV, binBV, nilCheckV, bytesV, V.cells, V.stays, a5, h0, hv3, h4, hlen, x2, y2, hz', r1]
        have k5 := (hsub.trans s5).updK (o := ⟨24, 4, [.agg [vI (i + 1), vI 1, vI n, vI (10 - n)]]⟩) (hsub.none f5)
        refine effR_new fun id1 σ1 s1 a1 f1 => ?_
        obtain ⟨idA, hda, hdel⟩ := hout.dst ((s5.updK f5).trans s1)
        have s2 := k5.trans s1
        have hb2 : (i + 1) * 33 ≤ 140737488355328 := by omega
        simp -implicitDefEqProofs only [BB, Int.reduceEq, Int.reduceNe, Int.reduceLT, Int.reduceLE, Int.reduceGT, Int.reduceGE, Nat.reduceEqDiff, Nat.reduceAdd, Nat.reduceMul, Nat.reduceLeDiff, Nat.reduceSub, Nat.reduceLT, Nat.reduceBEq, ↓reduceIte, reduceCtorEq, ← decide_not, okind, vpre, vpure, intBin, intPre, strBin, strPre, popTo, argSlots, fldV, fldAV, subCells, idxVV, idxAAV, idxSV, sliceV, sliceSV, boundV, szIs, storeOp, storeS, setRowV, eff, extV, buildV, splice, eqSV, fitsL, eqCells, eqCell, minmaxV, capV, binBV, nilCheckV, bytesV, V.cells, V.stays, hda, srcOne a1, List.length_map, hll, hb2, h0, h4]
        refine effR_put fun id2 σ2 s3 a2 f2 => ?_
        have s4 := (hdel σ (SubStore.refl _) σ1 s2).trans s3
        simp -implicitDefEqProofs only [BB, Int.reduceEq, Int.reduceNe, Int.reduceLT, Int.reduceLE, Int.reduceGT, Int.reduceGE, Nat.reduceEqDiff, Nat.reduceAdd, Nat.reduceMul, Nat.reduceLeDiff, Nat.reduceSub, Nat.reduceLT, Nat.reduceBEq, ↓reduceIte, reduceCtorEq, ← decide_not, okind, vpre, vpure, intBin, intPre, strBin, strPre, popTo, argSlots, fldV, fldAV, subCells, idxVV, idxAAV, idxSV, sliceV, sliceSV, boundV, szIs, storeOp, storeS, setRowV, eff, extV, buildV, splice, eqSV, fitsL, eqCells, eqCell, minmaxV, capV, binBV, nilCheckV, bytesV, V.cells, V.stays, h0, h4, r1]
        refine ⟨_, ?_, i + 1, by omega, rfl, s4, ?_, by simp [h0]⟩
        · omega
        · rw [hsn]; exact OutV.new (by simp [hll]) (by rw [a2]; simp [encF, fulR, hz]) (s2.none f2)
    · have hlt' : ((i : Int) < (l.length : Int)) = False := by simp; omega
      obtain rfl : i = l.length := by omega
      rw [List.take_length] at hout
      (refine Runs.of_step Orc.nothing 300 ?_; simp -implicitDefEqProofs only [BB, Int.reduceEq, Int.reduceNe, Int.reduceLT, Int.reduceLE, Int.reduceGT, Int.reduceGE, Nat.reduceEqDiff, Nat.reduceAdd, Nat.reduceMul, Nat.reduceLeDiff, Nat.reduceSub, Nat.reduceLT, Nat.reduceBEq, ↓reduceIte, reduceCtorEq, ← decide_not, okind, vpre, vpure, intBin, intPre, strBin, strPre, popTo, argSlots, fldV, fldAV, subCells, idxVV, idxAAV, idxSV, sliceV, sliceSV, boundV, szIs, storeOp, storeS, setRowV, eff, extV, buildV, splice, eqSV, fitsL, eqCells, eqCell, minmaxV, capV, binBV, nilCheckV, bytesV, V.cells, V.stays, Orc.nothing, h0, hv3, h4, hlen, hlt'])
      exact hout.retv hsub rfl
theorem ful_own (l : List Int) (hl : l.length ≤ 1000000) (hr : ∀ n ∈ l, 0 ≤ n ∧ n ≤ 1000) (σ : Store) (id : Nat) (hid : σ id = some ⟨3, 1, l.map vI⟩) : Contract Tryd.prog 15 [.own id 0 l.length] σ fun r σ' => r = encFl (fulL 0 l) ∧ σ' = σ :=
  ful_g l hl hr σ _ (fun i => .ptr id i 0) rfl (fun σ' hs i h => by simp [idxAV, hs _ _ hid, h]) (fun σ' hs i h => by simp [loadV, hs _ _ hid, h, V.cells])
end Go.Vc
namespace Go.Vc
open Go.Proofs
theorem read1 : PFun Tryd.prog 10 [.str [50, 32, 49, 32, 57, 32, 49, 10]] (.tup [encFl [⟨2, 1, 9, 1⟩], vI 0, vI 0]) := by
  have h := read_c [50, 32, 49, 32, 57, 32, 49, 10] (by simp)
  have e : rdL (splitL 10 [50, 32, 49, 32, 57, 32, 49, 10]) 0 = .ok [⟨2, 1, 9, 1⟩] := by kernel_rfl
  rw [e] at h; exact h
theorem read2 : PFun Tryd.prog 10 [.str [50, 32, 49, 32, 57, 32, 49, 10, 50, 32, 49, 32, 48, 57, 32, 49, 10]] (.tup [encFl [], vI 2, vI 1]) := by
  have h := read_c [50, 32, 49, 32, 57, 32, 49, 10, 50, 32, 49, 32, 48, 57, 32, 49, 10] (by simp)
  have e : rdL (splitL 10 [50, 32, 49, 32, 57, 32, 49, 10, 50, 32, 49, 32, 48, 57, 32, 49, 10]) 0 = .error 2 := by kernel_rfl
  rw [e] at h; exact h
theorem sumA : PFun Tryd.prog 7 [encFl (fulL 0 [9, 0, 4, 9])] (.agg [vI 4, vI 1, vI 22, vI 18, vI 0, vI 2]) := by
  have h := sum_c (fulL 0 [9, 0, 4, 9]) (by simp [fulL])
  have e : encU (sumM 0 sm0 (fulL 0 [9, 0, 4, 9])) = .agg [vI 4, vI 1, vI 22, vI 18, vI 0, vI 2] := by kernel_rfl
  rw [e] at h; exact h
theorem sum0 : PFun Tryd.prog 7 [encFl []] (.agg [vI 0, vI 0, vI 0, vI 0, vI (-1), vI (-1)]) := sum_c [] (by simp)
theorem sameA : PFun Tryd.prog 13 [encFl [⟨2, 1, 9, 1⟩], encFl [⟨2, 1, 9, 1⟩]] (.bool true) := by
  have h := same13_c [⟨2, 1, 9, 1⟩] [⟨2, 1, 9, 1⟩] (by simp)
  simpa using h
def pgA : Pg := ⟨2, 1, [], [⟨0, 0, 0, 0, 0, 0, 3⟩, ⟨0, 1, 0, 0, 5, 0, 4⟩], []⟩
set_option maxRecDepth 100000 in
theorem awake6_c : PFun Tryd.prog 6 [] (.bool true) := fun σ => by
  refine Contract.of_runs Tryd.func6 e6 k6 (by simp [c6]) ?_
  refine Runs.mix 9 ?_
  (refine Runs.of_step Orc.nothing 300 ?_; simp -implicitDefEqProofs only [BB, Int.reduceEq, Int.reduceNe, Int.reduceLT, Int.reduceLE, Int.reduceGT, Int.reduceGE, Nat.reduceEqDiff, Nat.reduceAdd, Nat.reduceMul, Nat.reduceLeDiff, Nat.reduceSub, Nat.reduceLT, Nat.reduceBEq, ↓reduceIte, reduceCtorEq, ← decide_not, okind, vpre, vpure, intBin, intPre, strBin, strPre, popTo, argSlots, fldV, fldAV, subCells, idxVV, idxAAV, idxSV, sliceV, sliceSV, boundV, szIs, storeOp, storeS, setRowV, eff, extV, buildV, splice, eqSV, fitsL, eqCells, eqCell, minmaxV, capV, binBV, nilCheckV, bytesV, V.cells, V.stays, Orc.nothing, c6])
  refine effR_new fun id11 σ1 s1 a11 f11 => ?_
  simp -implicitDefEqProofs only [BB, Int.reduceEq, Int.reduceNe, Int.reduceLT, Int.reduceLE, Int.reduceGT, Int.reduceGE, Nat.reduceEqDiff, Nat.reduceAdd, Nat.reduceMul, Nat.reduceLeDiff, Nat.reduceSub, Nat.reduceLT, Nat.reduceBEq, ↓reduceIte, reduceCtorEq, ← decide_not, okind, vpre, vpure, intBin, intPre, strBin, strPre, popTo, argSlots, fldV, fldAV, subCells, idxVV, idxAAV, idxSV, sliceV, sliceSV, boundV, szIs, storeOp, storeS, setRowV, eff, extV, buildV, splice, eqSV, fitsL, eqCells, eqCell, minmaxV, capV, binBV, nilCheckV, bytesV, V.cells, V.stays]
  refine effR_new fun id1 σ2 s2 a1 f1 => ?_
  simp -implicitDefEqProofs only [BB, Int.reduceEq, Int.reduceNe, Int.reduceLT, Int.reduceLE, Int.reduceGT, Int.reduceGE, Nat.reduceEqDiff, Nat.reduceAdd, Nat.reduceMul, Nat.reduceLeDiff, Nat.reduceSub, Nat.reduceLT, Nat.reduceBEq, ↓reduceIte, reduceCtorEq, ← decide_not, okind, vpre, vpure, intBin, intPre, strBin, strPre, popTo, argSlots, fldV, fldAV, subCells, idxVV, idxAAV, idxSV, sliceV, sliceSV, boundV, szIs, storeOp, storeS, setRowV, eff, extV, buildV, splice, eqSV, fitsL, eqCells, eqCell, minmaxV, capV, binBV, nilCheckV, bytesV, V.cells, V.stays, a1]
  refine effR_new fun id2 σ3 s3 a2 f2 => ?_
  have m1 := ne_new a11 f1
  have b11 := s3 _ _ ((upd_ne m1).trans (s2 _ _ a11))
  have b1 := s3 _ _ (upd_same (σ := σ2) (id := id1) (o := ⟨42, 5, [.agg [.int .i64 2, .int .i64 1, .nils, .own id11 0 2, .nils]]⟩))
  have m2 : id1 ≠ id2 := ne_new upd_same f2
  have m3 : id11 ≠ id2 := ne_new ((upd_ne m1).trans (s2 _ _ a11)) f2
  have c1 := (upd_ne (o := ⟨24, 4, [.agg [.int .i64 2, .int .i64 1, .int .i64 9, .int .i64 1]]⟩) m2).trans b1
  have c11 := (upd_ne (o := ⟨24, 4, [.agg [.int .i64 2, .int .i64 1, .int .i64 9, .int .i64 1]]⟩) m3).trans b11
  simp -implicitDefEqProofs only [BB, Int.reduceEq, Int.reduceNe, Int.reduceLT, Int.reduceLE, Int.reduceGT, Int.reduceGE, Nat.reduceEqDiff, Nat.reduceAdd, Nat.reduceMul, Nat.reduceLeDiff, Nat.reduceSub, Nat.reduceLT, Nat.reduceBEq, ↓reduceIte, reduceCtorEq, ← decide_not, okind, vpre, vpure, intBin, intPre, strBin, strPre, popTo, argSlots, fldV, fldAV, subCells, idxVV, idxAAV, idxSV, sliceV, sliceSV, boundV, szIs, storeOp, storeS, setRowV, eff, extV, buildV, splice, eqSV, fitsL, eqCells, eqCell, minmaxV, capV, binBV, nilCheckV, bytesV, V.cells, V.stays, a2]
  refine Runs.pcall rfl rfl rfl (read1 _) ?_
  (refine Runs.of_step Orc.nothing 300 ?_; simp -implicitDefEqProofs only [BB, Int.reduceEq, Int.reduceNe, Int.reduceLT, Int.reduceLE, Int.reduceGT, Int.reduceGE, Nat.reduceEqDiff, Nat.reduceAdd, Nat.reduceMul, Nat.reduceLeDiff, Nat.reduceSub, Nat.reduceLT, Nat.reduceBEq, ↓reduceIte, reduceCtorEq, ← decide_not, okind, vpre, vpure, intBin, intPre, strBin, strPre, popTo, argSlots, fldV, fldAV, subCells, idxVV, idxAAV, idxSV, sliceV, sliceSV, boundV, szIs, storeOp, storeS, setRowV, eff, extV, buildV, splice, eqSV, fitsL, eqCells, eqCell, minmaxV, capV, binBV, nilCheckV, bytesV, V.cells, V.stays, Orc.nothing])
  refine Runs.pcall rfl rfl rfl (read2 _) ?_
  have k0 : SubStore σ (upd σ3 id2 ⟨24, 4, [.agg [.int .i64 2, .int .i64 1, .int .i64 9, .int .i64 1]]⟩) := (((((s1.trans s2).updK (s1.none f1)).trans s3)).updK (((s1.trans s2).updK (s1.none f1)).none f2))
  have c2 : (upd σ3 id2 ⟨24, 4, [.agg [.int .i64 2, .int .i64 1, .int .i64 9, .int .i64 1]]⟩) id2 = _ := upd_same
  generalize upd σ3 id2 ⟨24, 4, [.agg [.int .i64 2, .int .i64 1, .int .i64 9, .int .i64 1]]⟩ = σB at *
  (refine Runs.of_step Orc.nothing 300 ?_; simp -implicitDefEqProofs only [BB, Int.reduceEq, Int.reduceNe, Int.reduceLT, Int.reduceLE, Int.reduceGT, Int.reduceGE, Nat.reduceEqDiff, Nat.reduceAdd, Nat.reduceMul, Nat.reduceLeDiff, Nat.reduceSub, Nat.reduceLT, Nat.reduceBEq, ↓reduceIte, reduceCtorEq, ← decide_not, okind, vpre, vpure, intBin, intPre, strBin, strPre, popTo, argSlots, fldV, fldAV, subCells, idxVV, idxAAV, idxSV, sliceV, sliceSV, boundV, szIs, storeOp, storeS, setRowV, eff, extV, buildV, splice, eqSV, fitsL, eqCells, eqCell, minmaxV, capV, binBV, nilCheckV, bytesV, V.cells, V.stays, Orc.nothing, c1, c2])
  refine Go.dcallB (v := .agg [vI 2, vI 1, vI 9, vI 1]) rfl rfl rfl (fun σ8 h8 => PFun.borrow (args' := [encP pgA, vI 10])
    ⟨Wk.agg ⟨Wk.refl (nost_sub σ8) _, Wk.refl (nost_sub σ8) _, Wk.nils 7, by have := Wk.own (nost_sub σ8) (h8 _ _ c11) (σ' := nost) rfl (off := 0) (len := 2) (by simp); exact this, Wk.nils 7, trivial⟩, Wk.refl (nost_sub σ8) _, trivial⟩
    (page_c pgA 10 (fun i => by match i with | 0 => simp [Pg.sl, pgA] | 1 => simp [Pg.sl, pgA] | 2 => simp [Pg.sl, pgA] | i + 3 => simp [Pg.sl])) rfl) ?_
  (refine Go.of_step Orc.nothing 300 _ _ ?_; simp -implicitDefEqProofs only [BB, Int.reduceEq, Int.reduceNe, Int.reduceLT, Int.reduceLE, Int.reduceGT, Int.reduceGE, Nat.reduceEqDiff, Nat.reduceAdd, Nat.reduceMul, Nat.reduceLeDiff, Nat.reduceSub, Nat.reduceLT, Nat.reduceBEq, ↓reduceIte, reduceCtorEq, ← decide_not, okind, vpre, vpure, intBin, intPre, strBin, strPre, popTo, argSlots, fldV, fldAV, subCells, idxVV, idxAAV, idxSV, sliceV, sliceSV, boundV, szIs, storeOp, storeS, setRowV, eff, extV, buildV, splice, eqSV, fitsL, eqCells, eqCell, minmaxV, capV, binBV, nilCheckV, bytesV, V.cells, V.stays, Orc.nothing, c2])
  refine effD_new fun id29 σ4 s4 a29 f29 => ?_
  have c2' := s4 _ _ c2
  have k1 := k0.trans s4
  simp -implicitDefEqProofs only [BB, Int.reduceEq, Int.reduceNe, Int.reduceLT, Int.reduceLE, Int.reduceGT, Int.reduceGE, Nat.reduceEqDiff, Nat.reduceAdd, Nat.reduceMul, Nat.reduceLeDiff, Nat.reduceSub, Nat.reduceLT, Nat.reduceBEq, ↓reduceIte, reduceCtorEq, ← decide_not, okind, vpre, vpure, intBin, intPre, strBin, strPre, popTo, argSlots, fldV, fldAV, subCells, idxVV, idxAAV, idxSV, sliceV, sliceSV, boundV, szIs, storeOp, storeS, setRowV, eff, extV, buildV, splice, eqSV, fitsL, eqCells, eqCell, minmaxV, capV, binBV, nilCheckV, bytesV, V.cells, V.stays]
  refine Go.dcallB (v := encFl (fulL 0 [9, 0, 4, 9])) rfl rfl rfl (fun σ8 h8 => ful_own [9, 0, 4, 9] (by simp) (by simp) σ8 id29 (h8 _ _ a29)) ?_
  (refine Go.of_step Orc.nothing 300 _ _ ?_; simp -implicitDefEqProofs only [BB, Int.reduceEq, Int.reduceNe, Int.reduceLT, Int.reduceLE, Int.reduceGT, Int.reduceGE, Nat.reduceEqDiff, Nat.reduceAdd, Nat.reduceMul, Nat.reduceLeDiff, Nat.reduceSub, Nat.reduceLT, Nat.reduceBEq, ↓reduceIte, reduceCtorEq, ← decide_not, okind, vpre, vpure, intBin, intPre, strBin, strPre, popTo, argSlots, fldV, fldAV, subCells, idxVV, idxAAV, idxSV, sliceV, sliceSV, boundV, szIs, storeOp, storeS, setRowV, eff, extV, buildV, splice, eqSV, fitsL, eqCells, eqCell, minmaxV, capV, binBV, nilCheckV, bytesV, V.cells, V.stays, Orc.nothing])
  refine Go.dcall rfl rfl rfl sumA ?_
  (refine Go.of_step Orc.nothing 300 _ _ ?_; simp -implicitDefEqProofs only [BB, Int.reduceEq, Int.reduceNe, Int.reduceLT, Int.reduceLE, Int.reduceGT, Int.reduceGE, Nat.reduceEqDiff, Nat.reduceAdd, Nat.reduceMul, Nat.reduceLeDiff, Nat.reduceSub, Nat.reduceLT, Nat.reduceBEq, ↓reduceIte, reduceCtorEq, ← decide_not, okind, vpre, vpure, intBin, intPre, strBin, strPre, popTo, argSlots, fldV, fldAV, subCells, idxVV, idxAAV, idxSV, sliceV, sliceSV, boundV, szIs, storeOp, storeS, setRowV, eff, extV, buildV, splice, eqSV, fitsL, eqCells, eqCell, minmaxV, capV, binBV, nilCheckV, bytesV, V.cells, V.stays, Orc.nothing, c2'])
  refine Go.dcallB rfl rfl rfl (fun σ8 h8 => PFun.borrow (args' := [encFl []]) ⟨Wk.nils 4, trivial⟩ sum0 rfl) ?_
  (refine Go.of_step Orc.nothing 300 _ _ ?_; simp -implicitDefEqProofs only [BB, Int.reduceEq, Int.reduceNe, Int.reduceLT, Int.reduceLE, Int.reduceGT, Int.reduceGE, Nat.reduceEqDiff, Nat.reduceAdd, Nat.reduceMul, Nat.reduceLeDiff, Nat.reduceSub, Nat.reduceLT, Nat.reduceBEq, ↓reduceIte, reduceCtorEq, ← decide_not, okind, vpre, vpure, intBin, intPre, strBin, strPre, popTo, argSlots, fldV, fldAV, subCells, idxVV, idxAAV, idxSV, sliceV, sliceSV, boundV, szIs, storeOp, storeS, setRowV, eff, extV, buildV, splice, eqSV, fitsL, eqCells, eqCell, minmaxV, capV, binBV, nilCheckV, bytesV, V.cells, V.stays, Orc.nothing, c2'])
  refine effD_new fun id43 σ5 s5 a43 f43 => ?_
  have k2 := k1.trans s5
  simp -implicitDefEqProofs only [BB, Int.reduceEq, Int.reduceNe, Int.reduceLT, Int.reduceLE, Int.reduceGT, Int.reduceGE, Nat.reduceEqDiff, Nat.reduceAdd, Nat.reduceMul, Nat.reduceLeDiff, Nat.reduceSub, Nat.reduceLT, Nat.reduceBEq, ↓reduceIte, reduceCtorEq, ← decide_not, okind, vpre, vpure, intBin, intPre, strBin, strPre, popTo, argSlots, fldV, fldAV, subCells, idxVV, idxAAV, idxSV, sliceV, sliceSV, boundV, szIs, storeOp, storeS, setRowV, eff, extV, buildV, splice, eqSV, fitsL, eqCells, eqCell, minmaxV, capV, binBV, nilCheckV, bytesV, V.cells, V.stays]
  refine Go.dcallB rfl rfl rfl (fun σ8 h8 => PFun.borrow (args' := [encFl [⟨2, 1, 9, 1⟩], encFl [⟨2, 1, 9, 1⟩]])
    ⟨Wk.refl (nost_sub σ8) _, by have := Wk.own (nost_sub σ8) (h8 _ _ a43) (σ' := nost) rfl (off := 0) (len := 1) (by simp); exact this, trivial⟩ sameA rfl) ?_
  (refine Go.of_step Orc.nothing 300 _ _ ?_; simp -implicitDefEqProofs only [BB, Int.reduceEq, Int.reduceNe, Int.reduceLT, Int.reduceLE, Int.reduceGT, Int.reduceGE, Nat.reduceEqDiff, Nat.reduceAdd, Nat.reduceMul, Nat.reduceLeDiff, Nat.reduceSub, Nat.reduceLT, Nat.reduceBEq, ↓reduceIte, reduceCtorEq, ← decide_not, okind, vpre, vpure, intBin, intPre, strBin, strPre, popTo, argSlots, fldV, fldAV, subCells, idxVV, idxAAV, idxSV, sliceV, sliceSV, boundV, szIs, storeOp, storeS, setRowV, eff, extV, buildV, splice, eqSV, fitsL, eqCells, eqCell, minmaxV, capV, binBV, nilCheckV, bytesV, V.cells, V.stays, Orc.nothing])
  exact RetV.pure k2 rfl
end Go.Vc
namespace Go.Vc
theorem putM_full (m : Sm) (i : Int) (x : Fl) (h : x.kind = 3) : putM m i x = { pages := m.pages + 1, blank := m.blank + 1, used := addI [m.used, x.used], free := addI [m.free, x.free], full := m.full, empt := m.empt, most := m.most, least := m.least } := by
  unfold putM; rw [if_pos h]; rfl
theorem putM_other (m : Sm) (i : Int) (x : Fl) (h : ¬ x.kind = 3) : putM m i x = { pages := m.pages + 1, blank := m.blank, used := addI [m.used, x.used], free := addI [m.free, x.free], full := (if m.full < 0 ∨ x.used > m.most then i else m.full), most := (if m.full < 0 ∨ x.used > m.most then x.used else m.most), empt := (if m.empt < 0 ∨ x.used < m.least then i else m.empt), least := (if m.empt < 0 ∨ x.used < m.least then x.used else m.least) } := by
  unfold putM; rw [if_neg h]; unfold putC putB putA
  by_cases h1 : m.full < 0 ∨ x.used > m.most <;> by_cases h2 : m.empt < 0 ∨ x.used < m.least <;> simp [h1, h2]
end Go.Vc
namespace Go.Vc
theorem dec_step (u : Nat) (h : ¬ u < 10) : Lib.decDigits u = Lib.decDigits (u / 10) ++ [UInt8.ofNat (48 + u % 10)] := by rw [Lib.decDigits, dif_neg h]
theorem u8_of {n : Nat} (h : n < 256) : (UInt8.ofNat n).toNat = n := by simp [UInt8.toNat_ofNat']; omega
/-- the digits are digits -/
theorem dec_mem : ∀ (u : Nat), ∀ b ∈ Lib.decDigits u, 48 ≤ b.toNat ∧ b.toNat ≤ 57 := by
  intro u
  induction u using Nat.strongRecOn with
  | _ u ih =>
    by_cases h : u < 10
    · rw [Lib.decDigits_one h]
      intro b hb
      simp only [List.mem_cons, List.not_mem_nil, or_false] at hb
      subst hb
      rw [u8_of (by omega)]; omega
    · rw [dec_step u h]
      intro b hb
      rcases List.mem_append.1 hb with hb | hb
      · exact ih (u / 10) (by omega) b hb
      · simp only [List.mem_cons, List.not_mem_nil, or_false] at hb
        subst hb
        rw [u8_of (by omega)]; omega
theorem parse_snoc : ∀ (l : List UInt8) (acc u d : Nat), Lib.parseUint10 acc l = .ok u → d < 10 → u * 10 + d < 18446744073709551616 → Lib.parseUint10 acc (l ++ [UInt8.ofNat (48 + d)]) = .ok (u * 10 + d)
  | [], acc, u, d, h, hd, hb => by
    simp only [Lib.parseUint10] at h
    injection h with h
    subst h
    simp only [List.nil_append, Lib.parseUint10]
    rw [u8_of (by omega)]
    rw [if_pos (by omega), if_neg (by omega), if_neg (by omega)]
    congr 1; omega
  | c :: r, acc, u, d, h, hd, hb => by
    simp only [Lib.parseUint10] at h
    simp only [List.cons_append, Lib.parseUint10]
    split at h
    · rename_i h1
      split at h
      · cases h
      · rename_i h2
        split at h
        · cases h
        · rename_i h3
          rw [if_pos h1, if_neg h2, if_neg h3]
          exact parse_snoc r _ u d h hd hb
    · cases h
theorem parse_dec : ∀ (u : Nat), u < 1000000000000000 → Lib.parseUint10 0 (Lib.decDigits u) = .ok u := by
  intro u
  induction u using Nat.strongRecOn with
  | _ u ih =>
    intro hu
    by_cases h : u < 10
    · rw [Lib.decDigits_one h]
      have := parse_snoc [] 0 0 u rfl h (by omega)
      simpa using this
    · rw [dec_step u h, parse_snoc _ 0 (u / 10) (u % 10) (ih (u / 10) (by omega) (by omega)) (by omega) (by omega)]
      congr 1; omega
theorem dec_ne (u : Nat) : Lib.decDigits u ≠ [] := by
  unfold Lib.decDigits
  split <;> simp
theorem mag_dec (u : Nat) (h : u < 1000000000000000) : Lib.parseMag (Lib.decDigits u) = .ok u := by
  unfold Lib.parseMag
  rw [if_neg (dec_ne u)]
  exact parse_dec u h
theorem atoi_itoa (n : Int) (h : -1099511627776 ≤ n ∧ n ≤ 1099511627776) : Lib.atoiAll (Lib.itoa n) = .ok n := by
  by_cases hn : n < 0
  · have e : Lib.itoa n = 45 :: Lib.decDigits n.natAbs := by unfold Lib.itoa; rw [if_pos hn]
    rw [e, Lib.atoiAll]
    have h45 : ((45 : UInt8).toNat = 43 ∨ (45 : UInt8).toNat = 45) := .inr rfl
    simp only [if_pos h45]
    rw [mag_dec _ (by omega)]
    have hn45 : (45 : UInt8).toNat = 45 := rfl
    simp only [hn45, not_true_eq_false, false_and, if_false, true_and, if_true]
    rw [if_neg (by omega)]
    congr 1; omega
  · have e : Lib.itoa n = Lib.decDigits n.toNat := by unfold Lib.itoa; rw [if_neg hn]
    rw [e]
    cases hd : Lib.decDigits n.toNat with
    | nil => exact absurd hd (dec_ne _)
    | cons c r =>
      have hc := dec_mem n.toNat c (by rw [hd]; simp)
      rw [Lib.atoiAll]
      rw [if_neg (by omega), ← hd, mag_dec _ (by omega)]
      have h45 : ¬ c.toNat = 45 := by omega
      simp only [h45, not_false_eq_true, true_and, false_and, if_false]
      rw [if_neg (by omega)]
      congr 1; omega
theorem itoa_no (n : Int) : ∀ b ∈ Lib.itoa n, b ≠ 10 ∧ b ≠ 32 := by
  intro b hb
  have : b.toNat = 45 ∨ (48 ≤ b.toNat ∧ b.toNat ≤ 57) := by
    unfold Lib.itoa at hb
    split at hb
    · simp only [List.mem_cons] at hb
      rcases hb with rfl | hb
      · exact .inl rfl
      · exact .inr (dec_mem _ b hb)
    · exact .inr (dec_mem _ b hb)
  constructor <;> (rintro rfl; simp at this)
theorem split_app (c : UInt8) : ∀ (a r : List UInt8), c ∉ a → splitL c (a ++ c :: r) = a :: splitL c r
  | [], r, _ => by simp [splitL]
  | b :: a, r, h => by
    simp only [List.mem_cons, not_or] at h
    have ih := split_app c a r h.2
    simp only [List.cons_append, splitL]
    rw [if_neg (fun e => h.1 e.symm), ih]
/-- the pieces, with the sign between each two, are the text -/
theorem split_join (c : UInt8) : ∀ (s : List UInt8), ∃ p ps, splitL c s = p :: ps ∧ s = p ++ ps.flatMap (fun q => c :: q)
  | [] => ⟨[], [], rfl, rfl⟩
  | b :: s => by
    obtain ⟨p, ps, h1, h2⟩ := split_join c s
    simp only [splitL]
    by_cases h : b = c
    · subst h
      rw [if_pos rfl, h1]
      exact ⟨[], p :: ps, rfl, by simp [← h2]⟩
    · rw [if_neg h, h1]
      exact ⟨b :: p, ps, rfl, by simp [← h2]⟩
theorem join4 (a b c d : Int) : joinT [a, b, c, d] = Lib.itoa a ++ 32 :: (Lib.itoa b ++ 32 :: (Lib.itoa c ++ 32 :: Lib.itoa d)) := by simp [joinT]
theorem ok_itoa {n : Int} (h : -1099511627776 ≤ n ∧ n ≤ 1099511627776) : numW (Lib.itoa n) = n ∧ okW (Lib.itoa n) = true := by
  have := atoi_itoa n h
  exact ⟨by simp [numW, this], by simp [okW, this]⟩
theorem ok_word {w : List UInt8} (h : okW w = true) : Lib.itoa (numW w) = w := by
  rcases word_cases w with ⟨k, _, h2, h3, _⟩ | ⟨h1, _⟩
  · rw [h3] at h; rw [h2]; exact of_decide_eq_true h
  · rw [h1] at h; cases h
theorem fill_back {p : List UInt8} (h : (fillR p).2 = true) : joinT (numsF (fillR p).1) = p ∧ rightB (fillR p).1 = true := by
  cases hs : splitL 32 p with
  | nil => simp [fillR, hs] at h
  | cons a t1 =>
  cases t1 with
  | nil => simp [fillR, hs] at h
  | cons b t2 =>
  cases t2 with
  | nil => simp [fillR, hs] at h
  | cons c t3 =>
  cases t3 with
  | nil => simp [fillR, hs] at h
  | cons d t4 =>
  cases t4 with
  | cons _ _ => simp [fillR, hs] at h
  | nil =>
    have e : fillR p = if okW a && (okW b && (okW c && okW d)) then (⟨numW a, numW b, numW c, numW d⟩, rightB ⟨numW a, numW b, numW c, numW d⟩) else (zeroF, false) := by unfold fillR; rw [hs]
    rw [e] at h ⊢
    by_cases hok : (okW a && (okW b && (okW c && okW d))) = true
    · rw [if_pos hok] at h ⊢
      simp only [Bool.and_eq_true] at hok
      obtain ⟨o1, o2, o3, o4⟩ := hok
      refine ⟨?_, h⟩
      simp only [numsF, join4, ok_word o1, ok_word o2, ok_word o3, ok_word o4]
      obtain ⟨q, qs, h1, h2⟩ := split_join 32 p
      rw [hs] at h1
      simp only [List.cons.injEq] at h1
      obtain ⟨rfl, rfl⟩ := h1
      rw [h2]; simp
    · rw [if_neg hok] at h; simp at h
theorem no10 (x : Fl) : (10 : UInt8) ∉ joinT (numsF x) := by
  unfold numsF
  rw [join4]
  intro h
  simp only [List.mem_append, List.mem_cons] at h
  have hn : ∀ n : Int, (10 : UInt8) ∈ Lib.itoa n → False := fun n h => (itoa_no n _ h).1 rfl
  rcases h with h | h | h | h | h | h | h
  · exact hn _ h
  · simp at h
  · exact hn _ h
  · simp at h
  · exact hn _ h
  · simp at h
  · exact hn _ h
theorem split_text : ∀ (l : List Fl), splitL 10 (textT l) = l.map (fun x => joinT (numsF x)) ++ [[]]
  | [] => by simp [textT, splitL]
  | x :: l => by
    have ih := split_text l
    have e : textT (x :: l) = joinT (numsF x) ++ 10 :: textT l := by simp [textT, lineT]
    rw [e, split_app _ _ _ (no10 x), ih]
    rfl
/-- what is read was written -/
theorem rd_back : ∀ (ps : List (List UInt8)) (n : Nat) (l : List Fl), ps ≠ [] → rdL ps n = .ok l → (∀ x ∈ l, rightB x = true) ∧ ps = l.map (fun x => joinT (numsF x)) ++ [[]]
  | [], _, _, h, _ => absurd rfl h
  | [p], n, l, _, h => by
    simp only [rdL] at h
    split at h
    · rename_i hp
      injection h with h
      subst h hp
      simp
    · cases h
  | p :: q :: ps, n, l, _, h => by
    simp only [rdL] at h
    split at h
    · rename_i hf
      obtain ⟨h1, h2⟩ := fill_back hf
      split at h
      · rename_i l' hl'
        injection h with h
        subst h
        obtain ⟨h3, h4⟩ := rd_back (q :: ps) (n + 1) l' (by simp) hl'
        refine ⟨fun y hy => ?_, ?_⟩
        · rcases List.mem_cons.1 hy with rfl | hy
          · exact h2
          · exact h3 y hy
        · rw [h4]; simp [h1]
      · cases h
    · cases h
theorem read_back {s : List UInt8} {l : List Fl} (h : rdL (splitL 10 s) 0 = .ok l) : (∀ x ∈ l, rightB x = true) ∧ textT l = s := by
  obtain ⟨h1, h2⟩ := rd_back _ 0 l (splitL_ne 10 s) h
  refine ⟨h1, ?_⟩
  rw [← split_text] at h2
  obtain ⟨p, ps, a1, a2⟩ := split_join 10 s
  obtain ⟨q, qs, b1, b2⟩ := split_join 10 (textT l)
  rw [h2, b1] at a1
  simp only [List.cons.injEq] at a1
  rw [b2, a2, a1.1, a1.2]
end Go.Vc
namespace Go.Vc
open Go.Proofs
theorem textT_ge : ∀ l : List Fl, l.length ≤ (textT l).length
  | [] => by simp
  | x :: l => by
    have := textT_ge l
    simp only [textT, List.flatMap_cons, List.length_append, lineT, List.length_cons, List.length_nil] at this ⊢
    omega
end Go.Vc
namespace Go.Vc
open Go.Proofs
theorem clamp37_c (n : Int) : PFun Tryd.prog 37 [vI n] (vI (clampI n)) := fun σ => by
  refine Contract.of_runs Tryd.func37 e37 k37 (by simp [c37]) ?_
  (refine Runs.of_step Orc.nothing 300 ?_; simp -implicitDefEqProofs only [BB, effR_some, effD_some, Int.reduceEq, Int.reduceNe, Int.reduceLT, Int.reduceLE, Int.reduceGT, Int.reduceGE, Nat.reduceEqDiff, Nat.reduceAdd, Nat.reduceMul, Nat.reduceLeDiff, Nat.reduceSub, Nat.reduceLT, Nat.reduceBEq, ↓reduceIte, reduceCtorEq, ← decide_not, okind, vpre, vpure, intBin, intPre, strBin, strPre, popTo, argSlots, fldV, fldAV, subCells, idxVV, idxAAV, idxSV, sliceV, sliceSV, boundV, szIs, storeOp, storeS, setRowV, eff, extV, buildV, splice, eqSV, fitsL, eqCells, eqCell, minmaxV, capV, binBV, nilCheckV, bytesV, V.cells, V.stays, Orc.nothing, c37])
  refine ⟨fun h => RetV.same ?_, fun h => ⟨fun h' => RetV.same ?_, fun h' => RetV.same ?_⟩⟩
  all_goals simp only [vI, V.int.injEq, true_and, clampI]; omega
theorem nums_idx {σ : Store} {id : Nat} {l : List Int} (h : σ id = some ⟨3, 1, l.map vI⟩) {n : Nat} (hn : n = l.length) {i : Nat} (hi : i < l.length) : idxAV σ 1 (.own id 0 n) (vI i) = some (.ptr id i 0) := by
  subst hn; simp [idxAV, h, hi]
theorem nums_load {σ : Store} {id : Nat} {l : List Int} (h : σ id = some ⟨3, 1, l.map vI⟩) {i : Nat} (hi : i < l.length) : loadV σ false 1 (.ptr id i 0) = some (vI l[i]) := by
  simp [loadV, h, hi, V.cells]
set_option maxRecDepth 100000 in
theorem told_c (x : Fl) : PFun Tryd.prog 22 [encF x] (.bool (rightB x)) := fun σ => by
  refine Contract.of_runs Tryd.func22 e22 k22 (by simp [c22]) ?_
  refine Runs.mix 6 ?_
  (refine Runs.of_step Orc.nothing 300 ?_; simp -implicitDefEqProofs only [BB, Int.reduceEq, Int.reduceNe, Int.reduceLT, Int.reduceLE, Int.reduceGT, Int.reduceGE, Nat.reduceEqDiff, Nat.reduceAdd, Nat.reduceMul, Nat.reduceLeDiff, Nat.reduceSub, Nat.reduceLT, Nat.reduceBEq, ↓reduceIte, reduceCtorEq, ← decide_not, okind, vpre, vpure, intBin, intPre, strBin, strPre, popTo, argSlots, fldV, fldAV, subCells, idxVV, idxAAV, idxSV, sliceV, sliceSV, boundV, szIs, storeOp, storeS, setRowV, eff, extV, buildV, splice, eqSV, fitsL, eqCells, eqCell, minmaxV, capV, binBV, nilCheckV, bytesV, V.cells, V.stays, Orc.nothing, c22, encF])
  refine effR_new fun id1 σ1 s1 a1 f1 => ?_
  simp -implicitDefEqProofs only [BB, Int.reduceEq, Int.reduceNe, Int.reduceLT, Int.reduceLE, Int.reduceGT, Int.reduceGE, Nat.reduceEqDiff, Nat.reduceAdd, Nat.reduceMul, Nat.reduceLeDiff, Nat.reduceSub, Nat.reduceLT, Nat.reduceBEq, ↓reduceIte, reduceCtorEq, ← decide_not, okind, vpre, vpure, intBin, intPre, strBin, strPre, popTo, argSlots, fldV, fldAV, subCells, idxVV, idxAAV, idxSV, sliceV, sliceSV, boundV, szIs, storeOp, storeS, setRowV, eff, extV, buildV, splice, eqSV, fitsL, eqCells, eqCell, minmaxV, capV, binBV, nilCheckV, bytesV, V.cells, V.stays, a1]
  refine effR_new fun id3 σ2 s2 a3 f3 => ?_
  have hrow : σ2 id3 = some ⟨3, 1, (numsF x).map vI⟩ := a3
  have hr : rightB x = (numsF x).all fun n => !badN n := by unfold rightB numsF; rw [List.all_eq_not_any_not]; simp
  have hl : (numsF x).length = 4 := rfl
  rw [hr]
  generalize numsF x = L at *
  have hlen : lenV false (.own id3 0 4) = some (vI (4 : Nat)) := rfl
  simp -implicitDefEqProofs only [BB, Int.reduceEq, Int.reduceNe, Int.reduceLT, Int.reduceLE, Int.reduceGT, Int.reduceGE, Nat.reduceEqDiff, Nat.reduceAdd, Nat.reduceMul, Nat.reduceLeDiff, Nat.reduceSub, Nat.reduceLT, Nat.reduceBEq, ↓reduceIte, reduceCtorEq, ← decide_not, okind, vpre, vpure, intBin, intPre, strBin, strPre, popTo, argSlots, fldV, fldAV, subCells, idxVV, idxAAV, idxSV, sliceV, sliceSV, boundV, szIs, storeOp, storeS, setRowV, eff, extV, buildV, splice, eqSV, fitsL, eqCells, eqCell, minmaxV, capV, binBV, nilCheckV, bytesV, V.cells, V.stays]
  refine Runs.loop (fun m st => ∃ i : Nat, i ≤ 4 ∧ m = 4 - i ∧ st.σ = σ2 ∧ (∀ n ∈ L.take i, badN n = false) ∧ st.s 3 = .own id3 0 4 ∧ st.s 4 = vI i) 4 ?_ ?_
  · exact ⟨0, by omega, by omega, rfl, by simp, rfl, rfl⟩
  · rintro m ⟨s', σ'⟩ ⟨i, hi, rfl, hσ, hall, h3, h4⟩
    simp only at hσ h3 h4
    subst hσ
    refine Runs.mix 6 ?_
    by_cases hlt : i < 4
    · have hlt' : ((i : Int) < ((4 : Nat) : Int)) = True := by simp; omega
      have hiL : i < L.length := by omega
      have hidx := nums_idx hrow hl.symm hiL
      have hld := nums_load hrow hiL
      have r1 : inR .i64 ((i : Int) + 1) := inR_i64 (by omega) (by omega)
      have htk : L.take (i + 1) = L.take i ++ [L[i]] := by rw [List.take_add_one, List.getElem?_eq_getElem hiL]; rfl
      have hmem : L[i] ∈ L := List.getElem_mem hiL
      generalize L[i] = n at *
      (refine Runs.of_step Orc.nothing 300 ?_; simp -implicitDefEqProofs only [BB, Int.reduceEq, Int.reduceNe, Int.reduceLT, Int.reduceLE, Int.reduceGT, Int.reduceGE, Nat.reduceEqDiff, Nat.reduceAdd, Nat.reduceMul, Nat.reduceLeDiff, Nat.reduceSub, Nat.reduceLT, Nat.reduceBEq, ↓reduceIte, reduceCtorEq, ← decide_not, okind, vpre, vpure, intBin, intPre, strBin, strPre, popTo, argSlots, fldV, fldAV, subCells, idxVV, idxAAV, idxSV, sliceV, sliceSV, boundV, szIs, storeOp, storeS, setRowV, eff, extV, buildV, splice, eqSV, fitsL, eqCells, eqCell, minmaxV, capV, binBV, nilCheckV, bytesV, V.cells, V.stays, Orc.nothing, h3, h4, hlen, hlt', hidx, hld])
      refine Go.dcall rfl rfl rfl (clamp37_c n) ?_
      by_cases hb : clampI n = n
      · have q : (clampI n ≠ n) = False := by simp [hb]
        (refine Go.of_step Orc.nothing 300 _ _ ?_; simp -implicitDefEqProofs only [BB, Int.reduceEq, Int.reduceNe, Int.reduceLT, Int.reduceLE, Int.reduceGT, Int.reduceGE, Nat.reduceEqDiff, Nat.reduceAdd, Nat.reduceMul, Nat.reduceLeDiff, Nat.reduceSub, Nat.reduceLT, Nat.reduceBEq, ↓reduceIte, reduceCtorEq, ← decide_not, okind, vpre, vpure, intBin, intPre, strBin, strPre, popTo, argSlots, fldV, fldAV, subCells, idxVV, idxAAV, idxSV, sliceV, sliceSV, boundV, szIs, storeOp, storeS, setRowV, eff, extV, buildV, splice, eqSV, fitsL, eqCells, eqCell, minmaxV, capV, binBV, nilCheckV, bytesV, V.cells, V.stays, Orc.nothing, h3, h4, hidx, hld, q, r1])
        refine ⟨_, by omega, i + 1, by omega, rfl, ?_, by simp [h3]⟩
        intro k hk
        rw [htk] at hk
        rcases List.mem_append.1 hk with hk | hk
        · exact hall k hk
        · simp at hk; subst hk; unfold badN; exact decide_eq_false (by simp [hb])
      · have q : (clampI n ≠ n) = True := by simp [hb]
        (refine Go.of_step Orc.nothing 300 _ _ ?_; simp -implicitDefEqProofs only [BB, Int.reduceEq, Int.reduceNe, Int.reduceLT, Int.reduceLE, Int.reduceGT, Int.reduceGE, Nat.reduceEqDiff, Nat.reduceAdd, Nat.reduceMul, Nat.reduceLeDiff, Nat.reduceSub, Nat.reduceLT, Nat.reduceBEq, ↓reduceIte, reduceCtorEq, ← decide_not, okind, vpre, vpure, intBin, intPre, strBin, strPre, popTo, argSlots, fldV, fldAV, subCells, idxVV, idxAAV, idxSV, sliceV, sliceSV, boundV, szIs, storeOp, storeS, setRowV, eff, extV, buildV, splice, eqSV, fitsL, eqCells, eqCell, minmaxV, capV, binBV, nilCheckV, bytesV, V.cells, V.stays, Orc.nothing, h3, h4, hidx, hld, q])
        have hf : (L.all fun n => !badN n) = false := by
          rw [List.all_eq_false]
          exact ⟨n, hmem, by simp [badN, hb]⟩
        rw [hf]
        exact RetV.pure (s1.trans s2) rfl
    · have hlt' : ((i : Int) < ((4 : Nat) : Int)) = False := by simp; omega
      obtain rfl : i = 4 := by omega
      rw [List.take_of_length_le (by omega)] at hall
      (refine Runs.of_step Orc.nothing 300 ?_; simp -implicitDefEqProofs only [BB, Int.reduceEq, Int.reduceNe, Int.reduceLT, Int.reduceLE, Int.reduceGT, Int.reduceGE, Nat.reduceEqDiff, Nat.reduceAdd, Nat.reduceMul, Nat.reduceLeDiff, Nat.reduceSub, Nat.reduceLT, Nat.reduceBEq, ↓reduceIte, reduceCtorEq, ← decide_not, okind, vpre, vpure, intBin, intPre, strBin, strPre, popTo, argSlots, fldV, fldAV, subCells, idxVV, idxAAV, idxSV, sliceV, sliceSV, boundV, szIs, storeOp, storeS, setRowV, eff, extV, buildV, splice, eqSV, fitsL, eqCells, eqCell, minmaxV, capV, binBV, nilCheckV, bytesV, V.cells, V.stays, Orc.nothing, h3, h4, hlen, hlt'])
      have hf : (L.all fun n => !badN n) = true := by rw [List.all_eq_true]; intro n hn; simp [hall n hn]
      rw [hf]
      exact RetV.pure (s1.trans s2) rfl
theorem inR_u8 {m : Int} (h1 : 0 ≤ m) (h2 : m ≤ 255) : inR .u8 m := by
  unfold inR; rw [IntKind.wrap_u8]; omega
theorem dec_wrap (n : Int) (h0 : 0 ≤ n) : (48 + n.tmod 10) = ((48 + n.toNat % 10 : Nat) : Int) := by
  rw [Int.tmod_eq_emod_of_nonneg h0]; omega
theorem dec_len (u : Nat) (h : u ≤ 1099511627776) : (Lib.decDigits u).length ≤ 21 := by
  have := itoa_len (n := (u : Int)) (by omega)
  have e : Lib.itoa (u : Int) = Lib.decDigits u := by unfold Lib.itoa; rw [if_neg (by omega)]; simp
  rwa [e] at this
set_option maxRecDepth 100000 in
theorem digits_nat : ∀ (u : Nat), u ≤ 1099511627776 → PFun Tryd.prog 23 [vI u] (.str (Lib.decDigits u)) := by
  intro u
  induction u using Nat.strongRecOn with
  | _ u ih =>
    intro hu σ
    refine Contract.of_runs Tryd.func23 e23 k23 (by simp [c23]) ?_
    refine Runs.mix 6 ?_
    have q1 : ((u : Int) < 0) = False := by simp
    have q2 := dec_wrap (u : Int) (by omega)
    simp only [Int.toNat_natCast] at q2
    have r1 : inR .i64 ((48 + u % 10 : Nat) : Int) := inR_i64 (by omega) (by omega)
    have r1' : inR .i64 (48 + (u : Int).tmod 10) := by rw [q2]; exact r1
    have r2 : inR .u8 (48 + (u : Int).tmod 10) := by rw [q2]; exact inR_u8 (by omega) (by omega)
    (refine Runs.of_step Orc.nothing 300 ?_; simp -implicitDefEqProofs only [BB, Int.reduceEq, Int.reduceNe, Int.reduceLT, Int.reduceLE, Int.reduceGT, Int.reduceGE, Nat.reduceEqDiff, Nat.reduceAdd, Nat.reduceMul, Nat.reduceLeDiff, Nat.reduceSub, Nat.reduceLT, Nat.reduceBEq, ↓reduceIte, reduceCtorEq, ← decide_not, okind, vpre, vpure, intBin, intPre, strBin, strPre, popTo, argSlots, fldV, fldAV, subCells, idxVV, idxAAV, idxSV, sliceV, sliceSV, boundV, szIs, storeOp, storeS, setRowV, eff, extV, buildV, splice, eqSV, fitsL, eqCells, eqCell, minmaxV, capV, binBV, nilCheckV, bytesV, V.cells, V.stays, Orc.nothing, c23, q1, r1', r2])
    refine effR_new fun id4 σ1 s1 a4 f4 => ?_
    rw [q2] at a4
    have hb : bytesV σ1 (.own id4 0 1) = some (.str [UInt8.ofNat (48 + u % 10)]) := by
      have : (48 + u % 10) < 256 := by omega
      simp only [bytesV, a4, List.length_cons, List.length_nil]
      rw [if_pos ⟨trivial, by omega⟩]
      simp only [List.drop_zero, List.take_succ_cons, List.take_zero, bytesOf, byteOf]
      rw [Int.toNat_natCast]; rfl
    by_cases h9 : u < 10
    · have q4 : ((u : Int) > 9) = False := by simp; omega
      simp -implicitDefEqProofs only [BB, Int.reduceEq, Int.reduceNe, Int.reduceLT, Int.reduceLE, Int.reduceGT, Int.reduceGE, Nat.reduceEqDiff, Nat.reduceAdd, Nat.reduceMul, Nat.reduceLeDiff, Nat.reduceSub, Nat.reduceLT, Nat.reduceBEq, ↓reduceIte, reduceCtorEq, ← decide_not, okind, vpre, vpure, intBin, intPre, strBin, strPre, popTo, argSlots, fldV, fldAV, subCells, idxVV, idxAAV, idxSV, sliceV, sliceSV, boundV, szIs, storeOp, storeS, setRowV, eff, extV, buildV, splice, eqSV, fitsL, eqCells, eqCell, minmaxV, capV, binBV, nilCheckV, V.cells, V.stays, hb, q4]
      rw [Lib.decDigits_one h9]
      refine RetV.pure s1 ?_
      rw [Nat.mod_eq_of_lt h9]
    · have q4 : ((u : Int) > 9) = True := by simp; omega
      have q5 : (u : Int).tdiv 10 = ((u / 10 : Nat) : Int) := by rw [Int.tdiv_eq_ediv_of_nonneg (by omega)]; rfl
      have r3 : inR .i64 ((u / 10 : Nat) : Int) := inR_i64 (by omega) (by omega)
      simp -implicitDefEqProofs only [BB, Int.reduceEq, Int.reduceNe, Int.reduceLT, Int.reduceLE, Int.reduceGT, Int.reduceGE, Nat.reduceEqDiff, Nat.reduceAdd, Nat.reduceMul, Nat.reduceLeDiff, Nat.reduceSub, Nat.reduceLT, Nat.reduceBEq, ↓reduceIte, reduceCtorEq, ← decide_not, okind, vpre, vpure, intBin, intPre, strBin, strPre, popTo, argSlots, fldV, fldAV, subCells, idxVV, idxAAV, idxSV, sliceV, sliceSV, boundV, szIs, storeOp, storeS, setRowV, eff, extV, buildV, splice, eqSV, fitsL, eqCells, eqCell, minmaxV, capV, binBV, nilCheckV, V.cells, V.stays, hb, q4, q5, r3]
      refine Runs.pcall rfl rfl rfl (ih (u / 10) (by omega) (by omega) _) ?_
      (refine Runs.of_step Orc.nothing 300 ?_; simp -implicitDefEqProofs only [BB, Int.reduceEq, Int.reduceNe, Int.reduceLT, Int.reduceLE, Int.reduceGT, Int.reduceGE, Nat.reduceEqDiff, Nat.reduceAdd, Nat.reduceMul, Nat.reduceLeDiff, Nat.reduceSub, Nat.reduceLT, Nat.reduceBEq, ↓reduceIte, reduceCtorEq, ← decide_not, okind, vpre, vpure, intBin, intPre, strBin, strPre, popTo, argSlots, fldV, fldAV, subCells, idxVV, idxAAV, idxSV, sliceV, sliceSV, boundV, szIs, storeOp, storeS, setRowV, eff, extV, buildV, splice, eqSV, fitsL, eqCells, eqCell, minmaxV, capV, binBV, nilCheckV, bytesV, V.cells, V.stays, Orc.nothing])
      rw [dec_step u h9]
      have hdl := dec_len (u / 10) (by omega)
      exact ⟨by omega, RetV.pure s1 rfl⟩
theorem digits_c (n : Int) (h : -1099511627776 ≤ n ∧ n ≤ 1099511627776) : PFun Tryd.prog 23 [vI n] (.str (Lib.itoa n)) := fun σ => by
  by_cases hn : n < 0
  · refine Contract.of_runs Tryd.func23 e23 k23 (by simp [c23]) ?_
    refine Runs.mix 6 ?_
    have q1 : (n < 0) = True := by simp [hn]
    have q2 : 0 - n = ((n.natAbs : Nat) : Int) := by omega
    have r1 : inR .i64 ((n.natAbs : Nat) : Int) := inR_i64 (by omega) (by omega)
    (refine Runs.of_step Orc.nothing 300 ?_; simp -implicitDefEqProofs only [BB, Int.reduceEq, Int.reduceNe, Int.reduceLT, Int.reduceLE, Int.reduceGT, Int.reduceGE, Nat.reduceEqDiff, Nat.reduceAdd, Nat.reduceMul, Nat.reduceLeDiff, Nat.reduceSub, Nat.reduceLT, Nat.reduceBEq, ↓reduceIte, reduceCtorEq, ← decide_not, okind, vpre, vpure, intBin, intPre, strBin, strPre, popTo, argSlots, fldV, fldAV, subCells, idxVV, idxAAV, idxSV, sliceV, sliceSV, boundV, szIs, storeOp, storeS, setRowV, eff, extV, buildV, splice, eqSV, fitsL, eqCells, eqCell, minmaxV, capV, binBV, nilCheckV, bytesV, V.cells, V.stays, Orc.nothing, c23, q1, q2, r1])
    refine Runs.pcall rfl rfl rfl (digits_nat n.natAbs (by omega) _) ?_
    (refine Runs.of_step Orc.nothing 300 ?_; simp -implicitDefEqProofs only [BB, Int.reduceEq, Int.reduceNe, Int.reduceLT, Int.reduceLE, Int.reduceGT, Int.reduceGE, Nat.reduceEqDiff, Nat.reduceAdd, Nat.reduceMul, Nat.reduceLeDiff, Nat.reduceSub, Nat.reduceLT, Nat.reduceBEq, ↓reduceIte, reduceCtorEq, ← decide_not, okind, vpre, vpure, intBin, intPre, strBin, strPre, popTo, argSlots, fldV, fldAV, subCells, idxVV, idxAAV, idxSV, sliceV, sliceSV, boundV, szIs, storeOp, storeS, setRowV, eff, extV, buildV, splice, eqSV, fitsL, eqCells, eqCell, minmaxV, capV, binBV, nilCheckV, bytesV, V.cells, V.stays, Orc.nothing])
    have e : Lib.itoa n = 45 :: Lib.decDigits n.natAbs := by unfold Lib.itoa; rw [if_pos hn]
    rw [e]
    have hdl := dec_len n.natAbs (by omega)
    exact ⟨by omega, RetV.same rfl⟩
  · obtain ⟨u, rfl⟩ : ∃ u : Nat, n = u := ⟨n.toNat, by omega⟩
    have e : Lib.itoa (u : Int) = Lib.decDigits u := by unfold Lib.itoa; rw [if_neg hn]; simp
    rw [e]
    exact digits_nat u (by omega) σ
set_option maxRecDepth 100000 in
theorem write9_c (l : List Fl) (hl : l.length ≤ 1000000) : PFun Tryd.prog 9 [encFl l] (writeV l) := fun σ => by
  refine Contract.of_runs Tryd.func9 e9 k9 (by simp [c9]) ?_
  refine Runs.mix 6 ?_
  (refine Runs.of_step Orc.nothing 300 ?_; simp -implicitDefEqProofs only [BB, Int.reduceEq, Int.reduceNe, Int.reduceLT, Int.reduceLE, Int.reduceGT, Int.reduceGE, Nat.reduceEqDiff, Nat.reduceAdd, Nat.reduceMul, Nat.reduceLeDiff, Nat.reduceSub, Nat.reduceLT, Nat.reduceBEq, ↓reduceIte, reduceCtorEq, ← decide_not, okind, vpre, vpure, intBin, intPre, strBin, strPre, popTo, argSlots, fldV, fldAV, subCells, idxVV, idxAAV, idxSV, sliceV, sliceSV, boundV, szIs, storeOp, storeS, setRowV, eff, extV, buildV, splice, eqSV, fitsL, eqCells, eqCell, minmaxV, capV, binBV, nilCheckV, bytesV, V.cells, V.stays, Orc.nothing, c9, len_encFl])
  refine Runs.loop (fun m st => ∃ i : Nat, i ≤ l.length ∧ m = l.length - i ∧ st.σ = σ ∧ (∀ x ∈ l.take i, rightB x = true) ∧ st.s 0 = encFl l ∧ st.s 4 = .str (textT (l.take i)) ∧ st.s 5 = vI i) l.length ?_ ?_
  · exact ⟨0, by omega, by omega, rfl, by simp, rfl, rfl, rfl⟩
  · rintro m ⟨s', σ'⟩ ⟨i, hi, rfl, hσ, hall, h0, h4, h5⟩
    simp only at hσ h0 h4 h5
    subst hσ
    refine Runs.mix 12 ?_
    by_cases hlt : i < l.length
    · have hlt' : ((i : Int) < (l.length : Int)) = True := by simp; omega
      have hidx := idx_encFl (σ := σ') hlt
      have htk : l.take (i + 1) = l.take i ++ [l[i]] := by rw [List.take_add_one, List.getElem?_eq_getElem hlt]; rfl
      have hsplit : l = l.take i ++ l[i] :: l.drop (i + 1) := by rw [List.getElem_cons_drop, List.take_append_drop]
      have htl : (l.take i).length = i := by simp; omega
      have htx := textT_len (l.take i) hall
      have r1 : inR .i64 ((i : Int) + 1) := inR_i64 (by omega) (by omega)
      generalize l[i] = x at *
      (refine Runs.of_step Orc.nothing 300 ?_; simp -implicitDefEqProofs only [BB, Int.reduceEq, Int.reduceNe, Int.reduceLT, Int.reduceLE, Int.reduceGT, Int.reduceGE, Nat.reduceEqDiff, Nat.reduceAdd, Nat.reduceMul, Nat.reduceLeDiff, Nat.reduceSub, Nat.reduceLT, Nat.reduceBEq, ↓reduceIte, reduceCtorEq, ← decide_not, okind, vpre, vpure, intBin, intPre, strBin, strPre, popTo, argSlots, fldV, fldAV, subCells, idxVV, idxAAV, idxSV, sliceV, sliceSV, boundV, szIs, storeOp, storeS, setRowV, eff, extV, buildV, splice, eqSV, fitsL, eqCells, eqCell, minmaxV, capV, binBV, nilCheckV, bytesV, V.cells, V.stays, Orc.nothing, h0, h4, h5, len_encFl, hlt', hidx, loadV_rp_F])
      refine Runs.pcall rfl rfl rfl (told_c x _) ?_
      by_cases hr : rightB x = true
      · have hn := right_nums hr
        have e1 : loadV σ' false 1 (.rp (vI x.no)) = some (vI x.no) := rfl
        have e2 : loadV σ' false 1 (.rp (vI x.kind)) = some (vI x.kind) := rfl
        have e3 : loadV σ' false 1 (.rp (vI x.used)) = some (vI x.used) := rfl
        have e4 : loadV σ' false 1 (.rp (vI x.free)) = some (vI x.free) := rfl
        have b1 := hn x.no (by simp [numsF])
        have b2 := hn x.kind (by simp [numsF])
        have b3 := hn x.used (by simp [numsF])
        have b4 := hn x.free (by simp [numsF])
        have l1 := itoa_len b1
        have l2 := itoa_len b2
        have l3 := itoa_len b3
        have l4 := itoa_len b4
        (refine Runs.of_step Orc.nothing 300 ?_; simp -implicitDefEqProofs only [BB, Int.reduceEq, Int.reduceNe, Int.reduceLT, Int.reduceLE, Int.reduceGT, Int.reduceGE, Nat.reduceEqDiff, Nat.reduceAdd, Nat.reduceMul, Nat.reduceLeDiff, Nat.reduceSub, Nat.reduceLT, Nat.reduceBEq, ↓reduceIte, reduceCtorEq, ← decide_not, okind, vpre, vpure, intBin, intPre, strBin, strPre, popTo, argSlots, fldV, fldAV, subCells, idxVV, idxAAV, idxSV, sliceV, sliceSV, boundV, szIs, storeOp, storeS, setRowV, eff, extV, buildV, splice, eqSV, fitsL, eqCells, eqCell, minmaxV, capV, binBV, nilCheckV, bytesV, V.cells, V.stays, Orc.nothing, hr, h0, h4, h5, hidx, encF])
        refine Go.dcall rfl rfl rfl (digits_c x.no b1) ?_
        (refine Go.of_step Orc.nothing 300 _ _ ?_; simp -implicitDefEqProofs only [BB, Int.reduceEq, Int.reduceNe, Int.reduceLT, Int.reduceLE, Int.reduceGT, Int.reduceGE, Nat.reduceEqDiff, Nat.reduceAdd, Nat.reduceMul, Nat.reduceLeDiff, Nat.reduceSub, Nat.reduceLT, Nat.reduceBEq, ↓reduceIte, reduceCtorEq, ← decide_not, okind, vpre, vpure, intBin, intPre, strBin, strPre, popTo, argSlots, fldV, fldAV, subCells, idxVV, idxAAV, idxSV, sliceV, sliceSV, boundV, szIs, storeOp, storeS, setRowV, eff, extV, buildV, splice, eqSV, fitsL, eqCells, eqCell, minmaxV, capV, binBV, nilCheckV, bytesV, V.cells, V.stays, Orc.nothing, h0, h4, h5, hidx, encF])
        refine ⟨by omega, by simp only [List.length_append]; omega, ?_⟩
        refine Go.dcall rfl rfl rfl (digits_c x.kind b2) ?_
        (refine Go.of_step Orc.nothing 300 _ _ ?_; simp -implicitDefEqProofs only [BB, Int.reduceEq, Int.reduceNe, Int.reduceLT, Int.reduceLE, Int.reduceGT, Int.reduceGE, Nat.reduceEqDiff, Nat.reduceAdd, Nat.reduceMul, Nat.reduceLeDiff, Nat.reduceSub, Nat.reduceLT, Nat.reduceBEq, ↓reduceIte, reduceCtorEq, ← decide_not, okind, vpre, vpure, intBin, intPre, strBin, strPre, popTo, argSlots, fldV, fldAV, subCells, idxVV, idxAAV, idxSV, sliceV, sliceSV, boundV, szIs, storeOp, storeS, setRowV, eff, extV, buildV, splice, eqSV, fitsL, eqCells, eqCell, minmaxV, capV, binBV, nilCheckV, bytesV, V.cells, V.stays, Orc.nothing, h0, h4, h5, hidx, encF])
        refine ⟨by simp only [List.length_append, List.length_cons, List.length_nil]; omega, by simp only [List.length_append, List.length_cons, List.length_nil]; omega, ?_⟩
        refine Go.dcall rfl rfl rfl (digits_c x.used b3) ?_
        (refine Go.of_step Orc.nothing 300 _ _ ?_; simp -implicitDefEqProofs only [BB, Int.reduceEq, Int.reduceNe, Int.reduceLT, Int.reduceLE, Int.reduceGT, Int.reduceGE, Nat.reduceEqDiff, Nat.reduceAdd, Nat.reduceMul, Nat.reduceLeDiff, Nat.reduceSub, Nat.reduceLT, Nat.reduceBEq, ↓reduceIte, reduceCtorEq, ← decide_not, okind, vpre, vpure, intBin, intPre, strBin, strPre, popTo, argSlots, fldV, fldAV, subCells, idxVV, idxAAV, idxSV, sliceV, sliceSV, boundV, szIs, storeOp, storeS, setRowV, eff, extV, buildV, splice, eqSV, fitsL, eqCells, eqCell, minmaxV, capV, binBV, nilCheckV, bytesV, V.cells, V.stays, Orc.nothing, h0, h4, h5, hidx, encF])
        refine ⟨by simp only [List.length_append, List.length_cons, List.length_nil]; omega, by simp only [List.length_append, List.length_cons, List.length_nil]; omega, ?_⟩
        refine Go.dcall rfl rfl rfl (digits_c x.free b4) ?_
        (refine Go.of_step Orc.nothing 300 _ _ ?_; simp -implicitDefEqProofs only [BB, Int.reduceEq, Int.reduceNe, Int.reduceLT, Int.reduceLE, Int.reduceGT, Int.reduceGE, Nat.reduceEqDiff, Nat.reduceAdd, Nat.reduceMul, Nat.reduceLeDiff, Nat.reduceSub, Nat.reduceLT, Nat.reduceBEq, ↓reduceIte, reduceCtorEq, ← decide_not, okind, vpre, vpure, intBin, intPre, strBin, strPre, popTo, argSlots, fldV, fldAV, subCells, idxVV, idxAAV, idxSV, sliceV, sliceSV, boundV, szIs, storeOp, storeS, setRowV, eff, extV, buildV, splice, eqSV, fitsL, eqCells, eqCell, minmaxV, capV, binBV, nilCheckV, bytesV, V.cells, V.stays, Orc.nothing, h0, h4, h5, hidx, encF, r1])
        refine ⟨by simp only [List.length_append, List.length_cons, List.length_nil]; omega, by simp only [List.length_append, List.length_cons, List.length_nil]; omega, ?_⟩
        refine ⟨_, by omega, i + 1, by omega, rfl, ?_, ?_⟩
        · intro y hy
          rw [htk] at hy
          rcases List.mem_append.1 hy with hy | hy
          · exact hall y hy
          · simp at hy; subst hy; exact hr
        · rw [htk]; simp [h0, textT, lineT, numsF, joinT]
      · have hr' : rightB x = false := by simpa using hr
        have hw : writeV l = .tup [.str [], vI 4] := by
          unfold writeV
          rw [if_neg (by rw [hsplit]; simp [hr'])]
        (refine Runs.of_step Orc.nothing 300 ?_; simp -implicitDefEqProofs only [BB, Int.reduceEq, Int.reduceNe, Int.reduceLT, Int.reduceLE, Int.reduceGT, Int.reduceGE, Nat.reduceEqDiff, Nat.reduceAdd, Nat.reduceMul, Nat.reduceLeDiff, Nat.reduceSub, Nat.reduceLT, Nat.reduceBEq, ↓reduceIte, reduceCtorEq, ← decide_not, okind, vpre, vpure, intBin, intPre, strBin, strPre, popTo, argSlots, fldV, fldAV, subCells, idxVV, idxAAV, idxSV, sliceV, sliceSV, boundV, szIs, storeOp, storeS, setRowV, eff, extV, buildV, splice, eqSV, fitsL, eqCells, eqCell, minmaxV, capV, binBV, nilCheckV, bytesV, V.cells, V.stays, Orc.nothing, hr', h0, h4, h5])
        rw [hw]
        exact RetV.same rfl
    · have hlt' : ((i : Int) < (l.length : Int)) = False := by simp; omega
      obtain rfl : i = l.length := by omega
      rw [List.take_length] at hall h4
      (refine Runs.of_step Orc.nothing 300 ?_; simp -implicitDefEqProofs only [BB, Int.reduceEq, Int.reduceNe, Int.reduceLT, Int.reduceLE, Int.reduceGT, Int.reduceGE, Nat.reduceEqDiff, Nat.reduceAdd, Nat.reduceMul, Nat.reduceLeDiff, Nat.reduceSub, Nat.reduceLT, Nat.reduceBEq, ↓reduceIte, reduceCtorEq, ← decide_not, okind, vpre, vpure, intBin, intPre, strBin, strPre, popTo, argSlots, fldV, fldAV, subCells, idxVV, idxAAV, idxSV, sliceV, sliceSV, boundV, szIs, storeOp, storeS, setRowV, eff, extV, buildV, splice, eqSV, fitsL, eqCells, eqCell, minmaxV, capV, binBV, nilCheckV, bytesV, V.cells, V.stays, Orc.nothing, h0, h4, h5, len_encFl, hlt'])
      have hw : writeV l = .tup [.str (textT l), vI 0] := by
        unfold writeV
        rw [if_pos (by simpa using hall)]
      rw [hw]
      exact RetV.same rfl
end Go.Vc
namespace Go.Vc
open Go.Proofs
theorem split_snoc (c b : UInt8) : ∀ (a : List UInt8), splitL c (a ++ [b]) = if b = c then splitL c a ++ [[]] else (splitL c a).dropLast ++ [(splitL c a).getLastD [] ++ [b]]
  | [] => by
    simp only [List.nil_append, splitL]
    split <;> simp
  | d :: a => by
    have ih := split_snoc c b a
    have hne := splitL_ne c a
    simp only [List.cons_append, splitL]
    by_cases hd : d = c
    · simp only [if_pos hd, ih]
      split
      · simp
      · cases hs : splitL c a with
        | nil => exact absurd hs hne
        | cons p ps => simp [List.dropLast, List.getLastD]
    · simp only [if_neg hd, ih]
      by_cases hb : b = c
      · simp only [if_pos hb]
        cases hs : splitL c a with
        | nil => exact absurd hs hne
        | cons p ps => simp
      · simp only [if_neg hb]
        cases hs : splitL c a with
        | nil => exact absurd hs hne
        | cons p ps =>
          cases ps with
          | nil => simp
          | cons q qs => simp [List.getLastD]
theorem slice_one {s : List UInt8} {i : Nat} (h : i < s.length) : sliceSV (.str s) (some (vI i)) (some (vI ((i : Int) + 1))) = some (.str [s[i]]) := by
  simp only [sliceSV, boundV]
  rw [if_pos (by omega)]
  have e : ((i : Int) + 1).toNat - (i : Int).toNat = 1 := by omega
  rw [e, Int.toNat_natCast, List.drop_eq_getElem_cons h]
  rfl
theorem last_row {l : List (List UInt8)} (h : l ≠ []) : l.getLastD [] = l[l.length - 1]'(by have := List.length_pos_iff.2 h; omega) := by
  rw [List.getLastD_eq_getLast?, List.getLast?_eq_some_getLast h, Option.getD_some, List.getLast_eq_getElem]
theorem set_last {l : List (List UInt8)} (h : l ≠ []) (x : List UInt8) : (l.map V.str).set (l.length - 1) (.str x) = (l.dropLast ++ [x]).map V.str := by
  have hl := List.length_pos_iff.2 h
  obtain ⟨m, y, rfl⟩ : ∃ m y, l = m ++ [y] := ⟨l.dropLast, l.getLast h, (List.dropLast_concat_getLast h).symm⟩
  simp
set_option maxRecDepth 100000 in
theorem split26_c (s : List UInt8) (c : UInt8) (hs : s.length ≤ 1000000000) : PFun Tryd.prog 26 [.str s, .int .u8 c.toNat] (encS (splitL c s)) := fun σ => by
  refine Contract.of_runs Tryd.func26 e26 k26 (by simp [c26]) ?_
  refine Runs.mix 7 ?_
  (refine Runs.of_step Orc.nothing 300 ?_; simp -implicitDefEqProofs only [BB, Int.reduceEq, Int.reduceNe, Int.reduceLT, Int.reduceLE, Int.reduceGT, Int.reduceGE, Nat.reduceEqDiff, Nat.reduceAdd, Nat.reduceMul, Nat.reduceLeDiff, Nat.reduceSub, Nat.reduceLT, Nat.reduceBEq, ↓reduceIte, reduceCtorEq, ← decide_not, okind, vpre, vpure, intBin, intPre, strBin, strPre, popTo, argSlots, fldV, fldAV, subCells, idxVV, idxAAV, idxSV, sliceV, sliceSV, boundV, szIs, storeOp, storeS, setRowV, eff, extV, buildV, splice, eqSV, fitsL, eqCells, eqCell, minmaxV, capV, binBV, nilCheckV, bytesV, V.cells, V.stays, Orc.nothing, c26])
  refine effR_new fun id0 σ0 s0 a0 f0 => ?_
  simp -implicitDefEqProofs only [BB, Int.reduceEq, Int.reduceNe, Int.reduceLT, Int.reduceLE, Int.reduceGT, Int.reduceGE, Nat.reduceEqDiff, Nat.reduceAdd, Nat.reduceMul, Nat.reduceLeDiff, Nat.reduceSub, Nat.reduceLT, Nat.reduceBEq, ↓reduceIte, reduceCtorEq, ← decide_not, okind, vpre, vpure, intBin, intPre, strBin, strPre, popTo, argSlots, fldV, fldAV, subCells, idxVV, idxAAV, idxSV, sliceV, sliceSV, boundV, szIs, storeOp, storeS, setRowV, eff, extV, buildV, splice, eqSV, fitsL, eqCells, eqCell, minmaxV, capV, binBV, nilCheckV, bytesV, V.cells, V.stays]
  refine Runs.loop (fun m st => ∃ i : Nat, i ≤ s.length ∧ m = s.length - i ∧ SubStore σ st.σ ∧ (∃ id, σ id = none ∧ st.σ id = some ⟨9, 1, (splitL c (s.take i)).map .str⟩ ∧ st.s 5 = .own id 0 (splitL c (s.take i)).length) ∧ st.s 0 = .str s ∧ st.s 1 = .int .u8 c.toNat ∧ st.s 6 = vI i) s.length ?_ ?_
  · exact ⟨0, by omega, by omega, s0, ⟨id0, f0, a0, rfl⟩, rfl, rfl, rfl⟩
  · rintro m ⟨s', σ'⟩ ⟨i, hi, rfl, hsub, ⟨id, hid, hrow, h5⟩, h0, h1, h6⟩
    simp only at hsub hrow h0 h1 h5 h6
    refine Runs.mix 7 ?_
    have hne := splitL_ne c (s.take i)
    have hpos := List.length_pos_iff.2 hne
    have hcnt : (splitL c (s.take i)).length ≤ i + 1 := by
      rw [splitL_len]
      have := List.count_le_length (a := c) (l := s.take i)
      rw [List.length_take] at this; omega
    by_cases hlt : i < s.length
    · have hlt' : ((i : Int) < (s.length : Int)) = True := by simp; omega
      have hidx : idxSV (.str s) (vI i) = some (.int .u8 (s[i]).toNat) := by
        simp only [idxSV]; rw [if_pos (by omega)]; simp [hlt]
      have r1 : inR .i64 ((i : Int) + 1) := inR_i64 (by omega) (by omega)
      have htk : s.take (i + 1) = s.take i ++ [s[i]] := by rw [List.take_add_one, List.getElem?_eq_getElem hlt]; rfl
      have hsn := split_snoc c s[i] (s.take i)
      rw [← htk] at hsn
      have hsl := slice_one hlt
      have hmax : ((splitL c (s.take i)).getLastD []).length ≤ s.length := by
        rw [last_row hne]
        have := splitL_part c (s.take i) _ (List.getElem_mem (l := splitL c (s.take i)) (n := (splitL c (s.take i)).length - 1) (by omega))
        rw [List.length_take] at this; omega
      generalize s[i] = b at *
      by_cases hb : b = c
      · subst hb
        rw [if_pos rfl] at hsn
        have hq : (((b.toNat : Nat) : Int) = ((b.toNat : Nat) : Int)) = True := by simp
        (refine Runs.of_step Orc.nothing 300 ?_; simp -implicitDefEqProofs only [BB, Int.reduceEq, Int.reduceNe, Int.reduceLT, Int.reduceLE, Int.reduceGT, Int.reduceGE, Nat.reduceEqDiff, Nat.reduceAdd, Nat.reduceMul, Nat.reduceLeDiff, Nat.reduceSub, Nat.reduceLT, Nat.reduceBEq, ↓reduceIte, reduceCtorEq, ← decide_not, okind, vpre, vpure, intBin, intPre, strBin, strPre, popTo, argSlots, fldV, fldAV, subCells, idxVV, idxAAV, sliceV, sliceSV, boundV, szIs, storeOp, storeS, setRowV, eff, extV, buildV, splice, eqSV, fitsL, eqCells, eqCell, minmaxV, capV, binBV, nilCheckV, bytesV, V.cells, V.stays, Orc.nothing, h0, h1, h5, h6, hlt', hidx, lenV_str, hq])
        refine effR_new fun id1 σ1 s1 a1 f1 => ?_
        have hrow1 := s1 _ _ hrow
        have hda : dstRows σ1 9 1 (.own id 0 (splitL b (s.take i)).length) = some ((splitL b (s.take i)).map V.str, some id) := by
          simp only [dstRows, hrow1]
          rw [if_pos ⟨trivial, trivial, trivial, by simp⟩, List.take_of_length_le (by simp)]
        have hb2 : ((splitL b (s.take i)).length + 1) * 17 ≤ 140737488355328 := by omega
        simp -implicitDefEqProofs only [BB, Int.reduceEq, Int.reduceNe, Int.reduceLT, Int.reduceLE, Int.reduceGT, Int.reduceGE, Nat.reduceEqDiff, Nat.reduceAdd, Nat.reduceMul, Nat.reduceLeDiff, Nat.reduceSub, Nat.reduceLT, Nat.reduceBEq, ↓reduceIte, reduceCtorEq, ← decide_not, okind, vpre, vpure, intBin, intPre, strBin, strPre, popTo, argSlots, fldV, fldAV, subCells, idxVV, idxAAV, idxSV, sliceV, sliceSV, boundV, szIs, storeOp, storeS, setRowV, eff, extV, buildV, splice, eqSV, fitsL, eqCells, eqCell, minmaxV, capV, binBV, nilCheckV, bytesV, V.cells, V.stays, h0, h1, h5, h6, hda, srcOne a1, List.length_map, hb2]
        refine effR_put fun id2 σ2 s2 a2 f2 => ?_
        have k2 : SubStore σ σ2 := SubStore.trans ((hsub.trans s1).delK hid) s2
        simp -implicitDefEqProofs only [BB, Int.reduceEq, Int.reduceNe, Int.reduceLT, Int.reduceLE, Int.reduceGT, Int.reduceGE, Nat.reduceEqDiff, Nat.reduceAdd, Nat.reduceMul, Nat.reduceLeDiff, Nat.reduceSub, Nat.reduceLT, Nat.reduceBEq, ↓reduceIte, reduceCtorEq, ← decide_not, okind, vpre, vpure, intBin, intPre, strBin, strPre, popTo, argSlots, fldV, fldAV, subCells, idxVV, idxAAV, idxSV, sliceV, sliceSV, boundV, szIs, storeOp, storeS, setRowV, eff, extV, buildV, splice, eqSV, fitsL, eqCells, eqCell, minmaxV, capV, binBV, nilCheckV, bytesV, V.cells, V.stays, h0, h1, h6, r1]
        refine ⟨_, by omega, i + 1, by omega, rfl, k2, ⟨id2, (hsub.trans s1).none f2, ?_, ?_⟩, by simp [h0, h1]⟩
        · rw [a2, hsn]; simp
        · rw [hsn]; simp
      · rw [if_neg hb] at hsn
        have hq : (((b.toNat : Nat) : Int) = ((c.toNat : Nat) : Int)) = False := by
          simp only [eq_iff_iff, iff_false]; intro e; exact hb (UInt8.toNat_inj.1 (by omega))
        have hix : idxAV σ' 1 (.own id 0 (splitL c (s.take i)).length) (.int .i64 (((splitL c (s.take i)).length : Int) - 1)) = some (.ptr id ((splitL c (s.take i)).length - 1) 0) := by
          simp only [idxAV, hrow]
          rw [if_pos ⟨trivial, by omega, by omega⟩]
          have e : 0 + (((splitL c (s.take i)).length : Int) - 1).toNat = (splitL c (s.take i)).length - 1 := by omega
          rw [e]
        have hld : loadV σ' false 1 (.ptr id ((splitL c (s.take i)).length - 1) 0) = some (.str ((splitL c (s.take i)).getLastD [])) := by
          have hlt2 : (splitL c (s.take i)).length - 1 < (splitL c (s.take i)).length := by omega
          simp only [loadV, hrow, List.getElem?_map, List.getElem?_eq_getElem hlt2, Option.map_some]
          rw [last_row hne]
          rfl
        have hst : storeS σ' 1 (.ptr id ((splitL c (s.take i)).length - 1) 0) (.str ((splitL c (s.take i)).getLastD [] ++ [b])) = some (upd σ' id ⟨9, 1, (splitL c (s.take (i + 1))).map .str⟩) := by
          have hlt2 : (splitL c (s.take i)).length - 1 < (splitL c (s.take i)).length := by omega
          simp only [storeS, hrow, List.getElem?_map, List.getElem?_eq_getElem hlt2, Option.map_some]
          have e : ∀ x, setRowV (.str x) 0 1 (.str ((splitL c (s.take i)).getLastD [] ++ [b])) = some (.str ((splitL c (s.take i)).getLastD [] ++ [b])) := fun x => rfl
          rw [e]
          simp only []
          rw [set_last hne, hsn]
        have r2 : inR .i64 (((splitL c (s.take i)).length : Int) - 1) := inR_i64 (by omega) (by omega)
        (refine Runs.of_step Orc.nothing 300 ?_; simp -implicitDefEqProofs only [BB, Int.reduceEq, Int.reduceNe, Int.reduceLT, Int.reduceLE, Int.reduceGT, Int.reduceGE, Nat.reduceEqDiff, Nat.reduceAdd, Nat.reduceMul, Nat.reduceLeDiff, Nat.reduceSub, Nat.reduceLT, Nat.reduceBEq, ↓reduceIte, reduceCtorEq, ← decide_not, okind, vpre, vpure, intBin, intPre, strBin, strPre, popTo, argSlots, fldV, fldAV, subCells, idxVV, idxAAV, sliceV, boundV, szIs, storeOp, setRowV, eff, extV, buildV, splice, eqSV, fitsL, eqCells, eqCell, minmaxV, capV, binBV, nilCheckV, bytesV, V.cells, V.stays, Orc.nothing, h0, h1, h5, h6, hlt', hidx, lenV_str, hq, hix, hld, hst, hsl, r1, r2])
        refine ⟨by omega, _, by omega, i + 1, by omega, rfl, hsub.updK hid, ⟨id, hid, upd_same, ?_⟩, by simp [h0, h1]⟩
        rw [hsn]; simp [h5]; omega
    · have hlt' : ((i : Int) < (s.length : Int)) = False := by simp; omega
      obtain rfl : i = s.length := by omega
      rw [List.take_length] at hrow h5
      (refine Runs.of_step Orc.nothing 300 ?_; simp -implicitDefEqProofs only [BB, Int.reduceEq, Int.reduceNe, Int.reduceLT, Int.reduceLE, Int.reduceGT, Int.reduceGE, Nat.reduceEqDiff, Nat.reduceAdd, Nat.reduceMul, Nat.reduceLeDiff, Nat.reduceSub, Nat.reduceLT, Nat.reduceBEq, ↓reduceIte, reduceCtorEq, ← decide_not, okind, vpre, vpure, intBin, intPre, strBin, strPre, popTo, argSlots, fldV, fldAV, subCells, idxVV, idxAAV, idxSV, sliceV, sliceSV, boundV, szIs, storeOp, storeS, setRowV, eff, extV, buildV, splice, eqSV, fitsL, eqCells, eqCell, minmaxV, capV, binBV, nilCheckV, bytesV, V.cells, V.stays, Orc.nothing, h0, h1, h5, h6, hlt', lenV_str])
      have ho : OutV σ σ' 9 1 (.own id 0 (splitL c s).length) ((splitL c s).map .str) := .inr ⟨id, by simp, hrow, hid⟩
      exact ho.retv hsub rfl
end Go.Vc
