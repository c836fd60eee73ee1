/- Part 4 of the library of this proof. -/
import Derived.Test.YtfkjfphddckagaaDoorW3
import Derived.Shelf.Small.Strs
import Derived.Shelf.Strconv.Atoi
set_option linter.all false
namespace Go.Proofs
open Go.Shelf
def Tryd.lays137_ren : Go.Shelf.Ren := ⟨fun | 137 => 26 | 217 => 32 | 266 => 34 | n => n, fun | 9 => 9 | 5 => 5 | 3 => 3 | n => n, fun | n => n⟩
theorem Tryd.lays137 : Go.Proofs.Lays.n137 Tryd.prog Tryd.lays137_ren := {
  mixed := by kernel_rfl
  f137 := Tryd.func26.trans (congrArg some (by kernel_rfl))
  f217 := Tryd.func32.trans (congrArg some (by kernel_rfl))
  f266 := Tryd.func34.trans (congrArg some (by kernel_rfl))
  t3 := Tryd.underlying3
  a3 := Tryd.isAgg3
  z3 := Tryd.sizeOf3
  v3 := Tryd.zeroValue3
  t5 := Tryd.underlying5
  a5 := Tryd.isAgg5
  z5 := Tryd.sizeOf5
  v5 := Tryd.zeroValue5
  t9 := Tryd.underlying9
  a9 := Tryd.isAgg9
  z9 := Tryd.sizeOf9
  v9 := Tryd.zeroValue9 }
def Tryd.lays172_ren : Go.Shelf.Ren := ⟨fun | 172 => 33 | 244 => 35 | 245 => 36 | 247 => 37 | 279 => 38 | 280 => 39 | 281 => 40 | 282 => 41 | 287 => 42 | 316 => 43 | 171 => 45 | 205 => 44 | 321 => 46 | 322 => 47 | 243 => 48 | 246 => 49 | 283 => 50 | 284 => 51 | 285 => 52 | 286 => 53 | 129 => 55 | 317 => 54 | 318 => 56 | 319 => 57 | 320 => 58 | 337 => 59 | 338 => 60 | n => n, fun | 9 => 9 | 3 => 3 | 75 => 54 | 76 => 55 | 4 => 4 | 5 => 5 | 167 => 58 | 37 => 59 | 0 => 0 | 85 => 60 | 2 => 2 | 168 => 62 | 53 => 65 | 175 => 66 | 46 => 68 | 210 => 71 | 127 => 75 | 145 => 78 | 143 => 76 | 21 => 21 | 171 => 80 | 173 => 83 | 212 => 87 | 51 => 88 | 20 => 20 | 213 => 89 | 232 => 93 | 233 => 94 | 80 => 95 | n => n, fun | 15 => 1 | 16 => 2 | 17 => 3 | 18 => 4 | 19 => 5 | n => n⟩
theorem Tryd.lays172 : Go.Proofs.Lays.n172 Tryd.prog Tryd.lays172_ren := {
  mixed := by kernel_rfl
  f129 := Tryd.func55.trans (congrArg some (by kernel_rfl))
  f171 := Tryd.func45.trans (congrArg some (by kernel_rfl))
  f172 := Tryd.func33.trans (congrArg some (by kernel_rfl))
  f205 := Tryd.func44.trans (congrArg some (by kernel_rfl))
  f243 := Tryd.func48.trans (congrArg some (by kernel_rfl))
  f244 := Tryd.func35.trans (congrArg some (by kernel_rfl))
  f245 := Tryd.func36.trans (congrArg some (by kernel_rfl))
  f246 := Tryd.func49.trans (congrArg some (by kernel_rfl))
  f247 := Tryd.func37.trans (congrArg some (by kernel_rfl))
  f279 := Tryd.func38.trans (congrArg some (by kernel_rfl))
  f280 := Tryd.func39.trans (congrArg some (by kernel_rfl))
  f281 := Tryd.func40.trans (congrArg some (by kernel_rfl))
  f282 := Tryd.func41.trans (congrArg some (by kernel_rfl))
  f283 := Tryd.func50.trans (congrArg some (by kernel_rfl))
  f284 := Tryd.func51.trans (congrArg some (by kernel_rfl))
  f285 := Tryd.func52.trans (congrArg some (by kernel_rfl))
  f286 := Tryd.func53.trans (congrArg some (by kernel_rfl))
  f287 := Tryd.func42.trans (congrArg some (by kernel_rfl))
  f316 := Tryd.func43.trans (congrArg some (by kernel_rfl))
  f317 := Tryd.func54.trans (congrArg some (by kernel_rfl))
  f318 := Tryd.func56.trans (congrArg some (by kernel_rfl))
  f319 := Tryd.func57.trans (congrArg some (by kernel_rfl))
  f320 := Tryd.func58.trans (congrArg some (by kernel_rfl))
  f321 := Tryd.func46.trans (congrArg some (by kernel_rfl))
  f322 := Tryd.func47.trans (congrArg some (by kernel_rfl))
  f337 := Tryd.func59.trans (congrArg some (by kernel_rfl))
  f338 := Tryd.func60.trans (congrArg some (by kernel_rfl))
  t0 := Tryd.underlying0
  a0 := Tryd.isAgg0
  z0 := Tryd.sizeOf0
  v0 := Tryd.zeroValue0
  t2 := Tryd.underlying2
  a2 := Tryd.isAgg2
  z2 := Tryd.sizeOf2
  v2 := Tryd.zeroValue2
  t3 := Tryd.underlying3
  a3 := Tryd.isAgg3
  z3 := Tryd.sizeOf3
  v3 := Tryd.zeroValue3
  t4 := Tryd.underlying4
  a4 := Tryd.isAgg4
  z4 := Tryd.sizeOf4
  v4 := Tryd.zeroValue4
  t5 := Tryd.underlying5
  a5 := Tryd.isAgg5
  z5 := Tryd.sizeOf5
  v5 := Tryd.zeroValue5
  t9 := Tryd.underlying9
  a9 := Tryd.isAgg9
  z9 := Tryd.sizeOf9
  v9 := Tryd.zeroValue9
  t20 := Tryd.underlying20
  a20 := Tryd.isAgg20
  z20 := Tryd.sizeOf20
  v20 := Tryd.zeroValue20
  t21 := Tryd.underlying21
  a21 := Tryd.isAgg21
  z21 := Tryd.sizeOf21
  v21 := Tryd.zeroValue21
  t37 := Tryd.underlying59
  a37 := Tryd.isAgg59
  z37 := Tryd.sizeOf59
  v37 := Tryd.zeroValue59
  t46 := Tryd.underlying68
  a46 := Tryd.isAgg68
  z46 := Tryd.sizeOf68
  v46 := Tryd.zeroValue68
  t51 := Tryd.underlying88
  a51 := Tryd.isAgg88
  z51 := Tryd.sizeOf88
  v51 := Tryd.zeroValue88
  t53 := Tryd.underlying65
  a53 := Tryd.isAgg65
  z53 := Tryd.sizeOf65
  v53 := Tryd.zeroValue65
  t75 := Tryd.underlying54
  a75 := Tryd.isAgg54
  z75 := Tryd.sizeOf54
  v75 := Tryd.zeroValue54
  t76 := Tryd.underlying55
  a76 := Tryd.isAgg55
  z76 := Tryd.sizeOf55
  v76 := Tryd.zeroValue55
  t85 := Tryd.underlying60
  a85 := Tryd.isAgg60
  z85 := Tryd.sizeOf60
  v85 := Tryd.zeroValue60
  t127 := Tryd.underlying75
  a127 := Tryd.isAgg75
  z127 := Tryd.sizeOf75
  v127 := Tryd.zeroValue75
  t143 := Tryd.underlying76
  a143 := Tryd.isAgg76
  z143 := Tryd.sizeOf76
  v143 := Tryd.zeroValue76
  t145 := Tryd.underlying78
  a145 := Tryd.isAgg78
  z145 := Tryd.sizeOf78
  v145 := Tryd.zeroValue78
  t167 := Tryd.underlying58
  a167 := Tryd.isAgg58
  z167 := Tryd.sizeOf58
  v167 := Tryd.zeroValue58
  t168 := Tryd.underlying62
  a168 := Tryd.isAgg62
  z168 := Tryd.sizeOf62
  v168 := Tryd.zeroValue62
  t171 := Tryd.underlying80
  a171 := Tryd.isAgg80
  z171 := Tryd.sizeOf80
  v171 := Tryd.zeroValue80
  t173 := Tryd.underlying83
  a173 := Tryd.isAgg83
  z173 := Tryd.sizeOf83
  v173 := Tryd.zeroValue83
  t175 := Tryd.underlying66
  a175 := Tryd.isAgg66
  z175 := Tryd.sizeOf66
  v175 := Tryd.zeroValue66
  t210 := Tryd.underlying71
  a210 := Tryd.isAgg71
  z210 := Tryd.sizeOf71
  v210 := Tryd.zeroValue71
  t212 := Tryd.underlying87
  a212 := Tryd.isAgg87
  z212 := Tryd.sizeOf87
  v212 := Tryd.zeroValue87
  t213 := Tryd.underlying89
  a213 := Tryd.isAgg89
  z213 := Tryd.sizeOf89
  t232 := Tryd.underlying93
  a232 := Tryd.isAgg93
  z232 := Tryd.sizeOf93
  v232 := Tryd.zeroValue93
  t233 := Tryd.underlying94
  a233 := Tryd.isAgg94
  z233 := Tryd.sizeOf94
  v233 := Tryd.zeroValue94
  g15 := by kernel_rfl
  g16 := by kernel_rfl
  g17 := by kernel_rfl
  g18 := by kernel_rfl
  g19 := by kernel_rfl }
end Go.Proofs
namespace Go.Vc
open Go.Proofs Go.RowKit
theorem Sat.below {w0 w w' : World} {ow0 : Nat → Prop} {μ : Mu} {σ : Store} (h : Sat w0 ow0 μ σ w) (hb : Below w.heap.size w w') : Sat w0 ow0 μ σ w' := by
  have hk : Keeps (Owned μ σ) (Owned μ σ) w w' := fun b hlt hn => ⟨hn, hb.block b hlt⟩
  refine ⟨Nat.le_trans h.size hb.size, hb.os.trans h.os, hb.tape.trans h.tape, hb.output.trans h.output, fun b hlt hn => (hb.block b (Nat.lt_of_lt_of_le hlt h.size)).trans (h.same b hlt hn), h.fin, h.inj,
    fun id ob ho => ?_, h.fresh⟩
  exact (h.obj id ob ho).mono (MuLe.refl μ) hk hb.size fun b sz cap hp => hb.block b (Owned.lt h ⟨id, ob, sz, cap, ho, hp⟩)
theorem PFun.lib {P : Program} {f : FuncId} {args : List V} {v : V} {vals : List Value} {x : Value} (hcl : callable P f = true) (hargs : ∀ μ ow w l, RepAll μ ow w args l → l = vals)
    (h : ∀ w, Calls P f vals.toArray w fun e w' => e = .returned x ∧ Below w.heap.size w w') (hx : ∀ μ ow w, Rep μ ow w v x) : PFun P f args v := by
  intro σ
  refine ⟨hcl, fun μ w l hs hr => ?_⟩
  obtain rfl := hargs _ _ _ _ hr
  refine (h w).mono ?_
  rintro e w' ⟨rfl, hb⟩
  exact ⟨v, σ, μ, x, rfl, ⟨rfl, rfl⟩, MuLe.refl μ, hs.below hb, hx _ _ _⟩
theorem indexByte_c (s : List UInt8) : PFun Tryd.prog 26 [.str s, .int .u8 10] (vI (Lib.indexByte s 10)) := by
  refine PFun.lib (vals := [.string ⟨s.toArray⟩, .int .u8 10]) (x := .int .i64 (Lib.indexByte s 10)) (by kernel_rfl) (fun μ ow w l h => ?_) (fun w => ?_) (fun _ _ _ => by simp [Rep])
  · simpa [RepAll, Rep] using h
  · refine (Any.strings_IndexByte Tryd.lays137 ⟨s.toArray⟩ 10 w).mono ?_
    rintro e w' ⟨rfl, rfl⟩
    exact ⟨rfl, Below.refl _ _⟩
theorem atoi_c (s : List UInt8) (n : Int) (hl : s.length ≤ 18) (h : Lib.atoi s = some n) : PFun Tryd.prog 33 [.str s] (.tup [vI n, .niliface]) := by
  refine PFun.lib (vals := [.string ⟨s.toArray⟩]) (x := .tuple #[.int .i64 n, .nilIface]) (by kernel_rfl) (fun μ ow w l h => ?_) (fun w => ?_) (fun _ _ _ => by simp only [Rep]; exact ⟨_, rfl, by simp [RepAll, Rep]⟩)
  · simpa [RepAll, Rep] using h
  · refine (Any.strconv_Atoi Tryd.lays172 ⟨s.toArray⟩ n (by simpa [ByteArray.size] using hl) h w).mono ?_
    rintro e w' ⟨rfl, t, rfl⟩
    exact ⟨rfl, ⟨rfl, rfl, rfl, by rw [Lib.bytesWorld_size]; omega, fun k hk => Lib.bytesWorld_at_old w _ t k hk⟩⟩
end Go.Vc
namespace Go.Vc
open Go.Proofs
def allDig (l : List UInt8) : Prop := ∀ b ∈ l, 48 ≤ b.toNat ∧ b.toNat ≤ 57
theorem take_dig : ∀ (l : List UInt8), allDig (l.take (digLen l))
  | [] => by simp [allDig]
  | b :: l => by
    simp only [digLen]
    split
    · rename_i hb
      intro x hx
      simp only [List.take_succ_cons, List.mem_cons] at hx
      rcases hx with rfl | hx
      · exact hb
      · exact take_dig l x hx
    · simp [allDig]
theorem digs_dig (s : List UInt8) (i : Nat) : allDig (digsAt s i) := take_dig _
theorem fold_dec : ∀ (l : List UInt8) (acc : Nat), allDig l → Lib.decFrom acc l = some (l.foldl (fun n b => 10 * n + (b.toNat - 48)) acc)
  | [], acc, _ => rfl
  | b :: l, acc, h => by
    have hb := h b (by simp)
    simp only [Lib.decFrom, Lib.digitVal, if_pos hb, List.foldl_cons]
    rw [fold_dec l _ fun x hx => h x (by simp [hx]), Nat.mul_comm]
theorem atoi_dig {l : List UInt8} (h : allDig l) (hl : l ≠ []) : Lib.atoi l = some (numR l : Int) := by
  cases l with
  | nil => exact absurd rfl hl
  | cons b l =>
    have hb := h b (by simp)
    have h1 : (b == 45) = false := by
      rw [beq_eq_false_iff_ne]; rintro rfl; simp at hb
    have h2 : (b == 43) = false := by
      rw [beq_eq_false_iff_ne]; rintro rfl; simp at hb
    have := fold_dec (b :: l) 0 h
    simp only [Lib.atoi, h1, h2, Bool.false_eq_true, if_false, Lib.decNat, List.isEmpty_cons, this, Option.map_some]
    rfl
theorem fold_ge : ∀ (l : List UInt8) (acc : Nat), acc * 10 ^ l.length ≤ l.foldl (fun n b => 10 * n + (b.toNat - 48)) acc
  | [], acc => by simp
  | b :: l, acc => by
    have := fold_ge l (10 * acc + (b.toNat - 48))
    simp only [List.foldl_cons, List.length_cons]
    refine Nat.le_trans ?_ this
    rw [Nat.pow_succ, Nat.mul_comm (10 ^ l.length) 10, ← Nat.mul_assoc]
    exact Nat.mul_le_mul_right _ (by omega)
theorem numBad_long {l : List UInt8} (h : allDig l) (hl : l.length > 13) : numBad l = true := by
  cases l with
  | nil => simp at hl
  | cons b l =>
    unfold numBad
    by_cases hb : b = 48
    · subst hb; simp at hl ⊢; right; omega
    · have h1 := h b (by simp)
      have h2 : 49 ≤ b.toNat := by
        rcases Nat.lt_or_ge b.toNat 49 with h3 | h3
        · exact absurd (UInt8.toNat.inj (show b.toNat = (48 : UInt8).toNat by simp; omega)) hb
        · exact h3
      have h4 := fold_ge l (b.toNat - 48)
      have h5 : numR (b :: l) = l.foldl (fun n b => 10 * n + (b.toNat - 48)) (b.toNat - 48) := by simp [numR]
      simp only [List.length_cons] at hl
      have h6 := Nat.pow_le_pow_right (n := 10) (by decide) (show 13 ≤ l.length by omega)
      have h7 : (10 : Nat) ^ 13 = 10000000000000 := by decide
      have h8 : 10 ^ l.length ≤ (b.toNat - 48) * 10 ^ l.length := Nat.le_mul_of_pos_left _ (by omega)
      have h9 : numR (b :: l) > 1099511627776 := by omega
      simp [h9]
/-- what 'number' tells of digits -/
def numV (l : List UInt8) : V := if (l.length > 1 ∧ l.head? = some 48) ∨ l.length > 13 then .tup [vI 0, .bool false] else .tup [vI (numR l), .bool (decide (numR l ≤ 1099511627776))]
theorem number_c (l : List UInt8) (h : allDig l) (hl : l ≠ []) : PFun Tryd.prog 29 [.str l] (numV l) := fun σ => by
  refine Contract.of_runs Tryd.func29 e29 k29 (by simp [c29]) ?_
  refine Runs.mix 6 ?_
  have h0 : 0 < l.length := List.length_pos_iff.2 hl
  have hx := idx_byt h0
  have hh : (l.head? = some 48) ↔ byt l 0 = 48 := by
    cases l with
    | nil => exact absurd rfl hl
    | cons b l => simp [byt]; exact ⟨fun e => by rw [e]; rfl, fun e => UInt8.toNat.inj e⟩
  have hx0 : idxSV (.str l) (.int .i64 0) = some (.int .u8 (byt l 0)) := hx
  have hb0 : byt l 0 < 256 := byt_lt.2 h0
  unfold numV
  simp only [hh]
  by_cases h1 : l.length > 1
  · have q1 : ((l.length : Int) > 1) = True := by simp; omega
    by_cases h48 : byt l 0 = 48
    · have q2 : ((byt l 0 : Int) = 48) = True := by simp [h48]
      (refine Runs.of_step Orc.nothing 300 ?_; simp -implicitDefEqProofs only [BB, effR_some, effD_some, Int.reduceEq, Int.reduceNe, Int.reduceLT, Int.reduceLE, Int.reduceGT, Int.reduceGE, Nat.reduceEqDiff, Nat.reduceAdd, Nat.reduceMul, Nat.reduceLeDiff, Nat.reduceSub, Nat.reduceLT, Nat.reduceBEq, ↓reduceIte, reduceCtorEq, ← decide_not, okind, vpre, vpure, intBin, intPre, strBin, strPre, popTo, argSlots, fldV, fldAV, subCells, idxVV, idxAAV, sliceV, sliceSV, boundV, szIs, storeOp, storeS, setRowV, eff, extV, buildV, splice, eqSV, fitsL, eqCells, eqCell, minmaxV, capV, binBV, nilCheckV, bytesV, V.cells, V.stays, Orc.nothing, c29, q1, q2, hx0])
      exact RetV.same (by rw [if_pos (.inl ⟨h1, h48⟩)])
    · have q2 : ((byt l 0 : Int) = 48) = False := by simp; omega
      by_cases h13 : l.length > 13
      · have q3 : ((l.length : Int) > 13) = True := by simp; omega
        (refine Runs.of_step Orc.nothing 300 ?_; simp -implicitDefEqProofs only [BB, effR_some, effD_some, Int.reduceEq, Int.reduceNe, Int.reduceLT, Int.reduceLE, Int.reduceGT, Int.reduceGE, Nat.reduceEqDiff, Nat.reduceAdd, Nat.reduceMul, Nat.reduceLeDiff, Nat.reduceSub, Nat.reduceLT, Nat.reduceBEq, ↓reduceIte, reduceCtorEq, ← decide_not, okind, vpre, vpure, intBin, intPre, strBin, strPre, popTo, argSlots, fldV, fldAV, subCells, idxVV, idxAAV, sliceV, sliceSV, boundV, szIs, storeOp, storeS, setRowV, eff, extV, buildV, splice, eqSV, fitsL, eqCells, eqCell, minmaxV, capV, binBV, nilCheckV, bytesV, V.cells, V.stays, Orc.nothing, c29, q1, q2, q3, hx0])
        exact RetV.same (by rw [if_pos (.inr h13)])
      · have q3 : ((l.length : Int) > 13) = False := by simp; omega
        (refine Runs.of_step Orc.nothing 300 ?_; simp -implicitDefEqProofs only [BB, effR_some, effD_some, Int.reduceEq, Int.reduceNe, Int.reduceLT, Int.reduceLE, Int.reduceGT, Int.reduceGE, Nat.reduceEqDiff, Nat.reduceAdd, Nat.reduceMul, Nat.reduceLeDiff, Nat.reduceSub, Nat.reduceLT, Nat.reduceBEq, ↓reduceIte, reduceCtorEq, ← decide_not, okind, vpre, vpure, intBin, intPre, strBin, strPre, popTo, argSlots, fldV, fldAV, subCells, idxVV, idxAAV, sliceV, sliceSV, boundV, szIs, storeOp, storeS, setRowV, eff, extV, buildV, splice, eqSV, fitsL, eqCells, eqCell, minmaxV, capV, binBV, nilCheckV, bytesV, V.cells, V.stays, Orc.nothing, c29, q1, q2, q3, hx0])
        refine Runs.pcall rfl rfl rfl (atoi_c l _ (by omega) (atoi_dig h hl) _) ?_
        (refine Runs.of_step Orc.nothing 300 ?_; simp -implicitDefEqProofs only [BB, effR_some, effD_some, Int.reduceEq, Int.reduceNe, Int.reduceLT, Int.reduceLE, Int.reduceGT, Int.reduceGE, Nat.reduceEqDiff, Nat.reduceAdd, Nat.reduceMul, Nat.reduceLeDiff, Nat.reduceSub, Nat.reduceLT, Nat.reduceBEq, ↓reduceIte, reduceCtorEq, ← decide_not, okind, vpre, vpure, intBin, intPre, strBin, strPre, popTo, argSlots, fldV, fldAV, subCells, idxVV, idxAAV, idxSV, sliceV, sliceSV, boundV, szIs, storeOp, storeS, setRowV, eff, extV, buildV, splice, eqSV, fitsL, eqCells, eqCell, minmaxV, capV, binBV, nilCheckV, bytesV, V.cells, V.stays, Orc.nothing])
        exact RetV.same (by rw [if_neg (by omega)]; simp; omega)
  · have q1 : ((l.length : Int) > 1) = False := by simp; omega
    have q3 : ((l.length : Int) > 13) = False := by simp; omega
    (refine Runs.of_step Orc.nothing 300 ?_; simp -implicitDefEqProofs only [BB, effR_some, effD_some, Int.reduceEq, Int.reduceNe, Int.reduceLT, Int.reduceLE, Int.reduceGT, Int.reduceGE, Nat.reduceEqDiff, Nat.reduceAdd, Nat.reduceMul, Nat.reduceLeDiff, Nat.reduceSub, Nat.reduceLT, Nat.reduceBEq, ↓reduceIte, reduceCtorEq, ← decide_not, okind, vpre, vpure, intBin, intPre, strBin, strPre, popTo, argSlots, fldV, fldAV, subCells, idxVV, idxAAV, idxSV, sliceV, sliceSV, boundV, szIs, storeOp, storeS, setRowV, eff, extV, buildV, splice, eqSV, fitsL, eqCells, eqCell, minmaxV, capV, binBV, nilCheckV, bytesV, V.cells, V.stays, Orc.nothing, c29, q1, q3])
    refine Runs.pcall rfl rfl rfl (atoi_c l _ (by omega) (atoi_dig h hl) _) ?_
    (refine Runs.of_step Orc.nothing 300 ?_; simp -implicitDefEqProofs only [BB, effR_some, effD_some, Int.reduceEq, Int.reduceNe, Int.reduceLT, Int.reduceLE, Int.reduceGT, Int.reduceGE, Nat.reduceEqDiff, Nat.reduceAdd, Nat.reduceMul, Nat.reduceLeDiff, Nat.reduceSub, Nat.reduceLT, Nat.reduceBEq, ↓reduceIte, reduceCtorEq, ← decide_not, okind, vpre, vpure, intBin, intPre, strBin, strPre, popTo, argSlots, fldV, fldAV, subCells, idxVV, idxAAV, idxSV, sliceV, sliceSV, boundV, szIs, storeOp, storeS, setRowV, eff, extV, buildV, splice, eqSV, fitsL, eqCells, eqCell, minmaxV, capV, binBV, nilCheckV, bytesV, V.cells, V.stays, Orc.nothing])
    exact RetV.same (by rw [if_neg (by omega)]; simp; omega)
theorem numV_T {l : List UInt8} (h : allDig l) (hl : l ≠ []) : ∃ n, numV l = .tup [vI n, .bool (!numBad l)] ∧ (numBad l = false → n = numR l) := by
  unfold numV
  split
  · rename_i hc
    refine ⟨0, ?_, fun hb => ?_⟩
    · have : numBad l = true := by
        rcases hc with hc | hc
        · simp [numBad, hc.1, hc.2]
        · exact numBad_long h hc
      simp [this]
    · exfalso
      have : numBad l = true := by
        rcases hc with hc | hc
        · simp [numBad, hc.1, hc.2]
        · exact numBad_long h hc
      rw [this] at hb; cases hb
  · rename_i hc
    refine ⟨numR l, ?_, fun _ => rfl⟩
    simp only [V.tup.injEq, List.cons.injEq, V.bool.injEq, and_true, true_and]
    unfold numBad
    rw [Bool.eq_iff_iff]
    rcases Classical.em (l.head? = some 48) with e | e <;> simp [e] at hc ⊢ <;> omega
theorem indexByte_line (s : List UInt8) (i : Nat) (hi : i ≤ s.length) : (if Lib.indexByte (s.drop i) 10 ≥ 0 then (i : Int) + Lib.indexByte (s.drop i) 10 else (s.length : Int)) = lineEnd s i := by
  have key : ∀ l : List UInt8, Lib.indexByte l 10 = match l.findIdx? (· == 10) with
      | some k => (k : Int)
      | none => -1 := by
    intro l
    induction l with
    | nil => rfl
    | cons b l ih =>
      simp only [Lib.indexByte, List.findIdx?_cons, ih]
      by_cases hb : (b == 10) = true
      · simp [hb]
      · simp only [hb]
        cases l.findIdx? (· == 10) with
        | none => simp
        | some k => simp <;> omega
  unfold lineEnd
  rw [key]
  cases (s.drop i).findIdx? (· == 10) with
  | none => simp
  | some k => simp <;> omega
theorem lineEnd_le (s : List UInt8) (i : Nat) (hi : i ≤ s.length) : i ≤ lineEnd s i ∧ lineEnd s i ≤ s.length := by
  unfold lineEnd
  cases h : (s.drop i).findIdx? (· == 10) with
  | none => simp; exact hi
  | some k =>
    obtain ⟨h1, _⟩ := List.findIdx?_eq_some_iff_getElem.1 h
    simp at h1 ⊢; omega
end Go.Vc
namespace Go.Vc
open Go.Proofs
def nextV : Option Tk → V
  | some t => .tup [encT t, .bool true]
  | none => .tup [.agg [vI 0, .int .i32 0, vI 0, vI 0], .bool false]
theorem loadV_rp_str (σ : Store) (sz : Nat) (l : List UInt8) : loadV σ false sz (.rp (.str l)) = some (.str l) := rfl
theorem upd_self {σ : Store} {id : Nat} {o : Ob} (h : σ id = some o) : upd σ id o = σ := by
  funext i
  unfold upd
  split
  · rename_i e; rw [e, h]
  · rfl
theorem next_end {σ σ1 : Store} {id : Nat} {o : Ob} {r v : V} (hv : r = v) (hs : SubStore (upd σ id o) σ1) : RetV r σ1 fun r σ' => r = v ∧ σ' = upd σ id o :=
  RetV.pure hs hv
set_option maxRecDepth 100000 in
theorem next_c (s : List UInt8) (hs : s.length ≤ 1000000) (i c skip id : Nat) (hi : i < s.length) (hc : c ≤ 2200000) (hcb : c ≤ 127 → c = byt s i) (hk : skip ≤ s.length) (σ : Store) (ho : σ id = some ⟨3, 1, [vI skip]⟩) :
    Contract Tryd.prog 24 [vI i, .int .i32 c, .ptr id 0 0, .rp (.str s)] σ fun r σ' => r = nextV (nextI s skip i c).1 ∧ σ' = upd σ id ⟨3, 1, [vI (nextI s skip i c).2]⟩ := by
  refine Contract.of_runs Tryd.func24 e24 k24 (by simp [c24]) ?_
  refine Runs.mix 12 ?_
  have hslice : sliceSV (.str s) (some (vI i)) none = some (.str (s.drop i)) := by
    simp only [sliceSV, boundV]
    rw [if_pos (by omega), show ((s.length : Int)).toNat - ((i : Int)).toNat = s.length - i by omega, Int.toNat_natCast, List.take_of_length_le (by simp)]
  generalize hn : nextI s skip i c = nx
  unfold nextI at hn
  (refine Runs.of_step Orc.nothing 300 ?_; simp -implicitDefEqProofs only [BB, Int.reduceEq, Int.reduceNe, Int.reduceLT, Int.reduceLE, Int.reduceGT, Int.reduceGE, Nat.reduceEqDiff, Nat.reduceAdd, Nat.reduceMul, Nat.reduceLeDiff, Nat.reduceSub, Nat.reduceLT, Nat.reduceBEq, ↓reduceIte, reduceCtorEq, ← decide_not, okind, vpre, vpure, intBin, intPre, strBin, strPre, popTo, argSlots, fldV, fldAV, subCells, idxVV, idxAAV, idxSV, sliceV, sliceSV, boundV, szIs, storeOp, storeS, setRowV, eff, extV, buildV, splice, eqSV, fitsL, eqCells, eqCell, minmaxV, capV, binBV, nilCheckV, bytesV, V.cells, V.stays, Orc.nothing, c24])
  refine effR_new fun id6 σ1 s1 a6 f6 => ?_
  have hid : id ≠ id6 := ne_new ho f6
  have ho1 := s1 _ _ ho
  have hid' := hid.symm
  have fin : ∀ o o6, SubStore (upd σ id o) (upd (upd σ1 id o) id6 o6) := fun o o6 => SubStore.updK (SubStore.upd2 s1) (by rw [upd_ne hid']; exact f6)
  have fin0 : ∀ o6, SubStore (upd σ id ⟨3, 1, [vI skip]⟩) (upd σ1 id6 o6) := fun o6 => by rw [upd_self ho]; exact SubStore.updK s1 f6
  by_cases hsk : i < skip
  · have q1 : ((i : Int) < (skip : Int)) = True := by simp; omega
    rw [if_pos (.inl hsk)] at hn
    subst hn
    simp -implicitDefEqProofs only [BB, Int.reduceEq, Int.reduceNe, Int.reduceLT, Int.reduceLE, Int.reduceGT, Int.reduceGE, Nat.reduceEqDiff, Nat.reduceAdd, Nat.reduceMul, Nat.reduceLeDiff, Nat.reduceSub, Nat.reduceLT, Nat.reduceBEq, ↓reduceIte, reduceCtorEq, ← decide_not, okind, vpre, vpure, intBin, intPre, strBin, strPre, popTo, argSlots, fldV, fldAV, subCells, idxVV, idxAAV, idxSV, sliceV, sliceSV, boundV, szIs, storeOp, storeS, setRowV, eff, extV, buildV, splice, eqSV, fitsL, eqCells, eqCell, minmaxV, capV, binBV, nilCheckV, bytesV, V.cells, V.stays, ho1, a6, q1, upd_ne hid, upd_ne hid', loadV_rp_str]
    exact next_end rfl (fin0 _)
  · have q1 : ((i : Int) < (skip : Int)) = False := by simp; omega
    simp -implicitDefEqProofs only [BB, Int.reduceEq, Int.reduceNe, Int.reduceLT, Int.reduceLE, Int.reduceGT, Int.reduceGE, Nat.reduceEqDiff, Nat.reduceAdd, Nat.reduceMul, Nat.reduceLeDiff, Nat.reduceSub, Nat.reduceLT, Nat.reduceBEq, ↓reduceIte, reduceCtorEq, ← decide_not, okind, vpre, vpure, intBin, intPre, strBin, strPre, popTo, argSlots, fldV, fldAV, subCells, idxVV, idxAAV, idxSV, sliceV, sliceSV, boundV, szIs, storeOp, storeS, setRowV, eff, extV, buildV, splice, eqSV, fitsL, eqCells, eqCell, minmaxV, capV, binBV, nilCheckV, bytesV, V.cells, V.stays, ho1, a6, q1, upd_ne hid, upd_ne hid', loadV_rp_str]
    refine Runs.pcall rfl rfl rfl (white_c c _) ?_
    by_cases hw : c = 32 ∨ c = 9 ∨ c = 10
    · have hw' : isWhite c = true := by simp [isWhite]; omega
      rw [if_pos (.inr hw)] at hn
      subst hn
      (refine Runs.of_step Orc.nothing 300 ?_; simp -implicitDefEqProofs only [BB, Int.reduceEq, Int.reduceNe, Int.reduceLT, Int.reduceLE, Int.reduceGT, Int.reduceGE, Nat.reduceEqDiff, Nat.reduceAdd, Nat.reduceMul, Nat.reduceLeDiff, Nat.reduceSub, Nat.reduceLT, Nat.reduceBEq, ↓reduceIte, reduceCtorEq, ← decide_not, okind, vpre, vpure, intBin, intPre, strBin, strPre, popTo, argSlots, fldV, fldAV, subCells, idxVV, idxAAV, idxSV, sliceV, sliceSV, boundV, szIs, storeOp, storeS, setRowV, eff, extV, buildV, splice, eqSV, fitsL, eqCells, eqCell, minmaxV, capV, binBV, nilCheckV, bytesV, V.cells, V.stays, Orc.nothing, ho1, a6, hw', upd_ne hid, upd_ne hid', loadV_rp_str])
      exact next_end rfl (fin0 _)
    · have hw' : isWhite c = false := by simp [isWhite]; omega
      rw [if_neg (by omega)] at hn
      by_cases h35 : c = 35
      · have q2 : ((c : Int) = 35) = True := by simp [h35]
        have hline := indexByte_line s i (by omega)
        have hll := lineEnd_le s i (by omega)
        rw [if_pos h35] at hn
        subst hn
        (refine Runs.of_step Orc.nothing 300 ?_; simp -implicitDefEqProofs only [BB, Int.reduceEq, Int.reduceNe, Int.reduceLT, Int.reduceLE, Int.reduceGT, Int.reduceGE, Nat.reduceEqDiff, Nat.reduceAdd, Nat.reduceMul, Nat.reduceLeDiff, Nat.reduceSub, Nat.reduceLT, Nat.reduceBEq, ↓reduceIte, reduceCtorEq, ← decide_not, okind, vpre, vpure, intBin, intPre, strBin, strPre, popTo, argSlots, fldV, fldAV, subCells, idxVV, idxAAV, idxSV, sliceV, boundV, szIs, storeOp, storeS, setRowV, eff, extV, buildV, splice, eqSV, fitsL, eqCells, eqCell, minmaxV, capV, binBV, nilCheckV, bytesV, V.cells, V.stays, Orc.nothing, ho1, a6, hw', q2, hslice, upd_ne hid, upd_ne hid', loadV_rp_str])
        refine Runs.pcall rfl rfl rfl (indexByte_c _ _) ?_
        generalize Lib.indexByte (s.drop i) 10 = b at *
        by_cases hb : b ≥ 0
        · have q3 : (b ≥ 0) = True := by simp [hb]
          rw [if_pos hb] at hline
          have r1 : inR .i64 ((i : Int) + b) := inR_i64 (by omega) (by omega)
          (refine Runs.of_step Orc.nothing 300 ?_; simp -implicitDefEqProofs only [BB, Int.reduceEq, Int.reduceNe, Int.reduceLT, Int.reduceLE, Int.reduceGT, Int.reduceGE, Nat.reduceEqDiff, Nat.reduceAdd, Nat.reduceMul, Nat.reduceLeDiff, Nat.reduceSub, Nat.reduceLT, Nat.reduceBEq, ↓reduceIte, reduceCtorEq, ← decide_not, okind, vpre, vpure, intBin, intPre, strBin, strPre, popTo, argSlots, fldV, fldAV, subCells, idxVV, idxAAV, idxSV, sliceV, sliceSV, boundV, szIs, storeOp, storeS, setRowV, eff, extV, buildV, splice, eqSV, fitsL, eqCells, eqCell, minmaxV, capV, binBV, nilCheckV, bytesV, V.cells, V.stays, Orc.nothing, ho1, a6, q3, r1, upd_ne hid, upd_ne hid', loadV_rp_str])
          rw [hline]
          exact next_end rfl (fin _ _)
        · have q3 : (b ≥ 0) = False := by simp; omega
          rw [if_neg hb] at hline
          (refine Runs.of_step Orc.nothing 300 ?_; simp -implicitDefEqProofs only [BB, Int.reduceEq, Int.reduceNe, Int.reduceLT, Int.reduceLE, Int.reduceGT, Int.reduceGE, Nat.reduceEqDiff, Nat.reduceAdd, Nat.reduceMul, Nat.reduceLeDiff, Nat.reduceSub, Nat.reduceLT, Nat.reduceBEq, ↓reduceIte, reduceCtorEq, ← decide_not, okind, vpre, vpure, intBin, intPre, strBin, strPre, popTo, argSlots, fldV, fldAV, subCells, idxVV, idxAAV, idxSV, sliceV, sliceSV, boundV, szIs, storeOp, storeS, setRowV, eff, extV, buildV, splice, eqSV, fitsL, eqCells, eqCell, minmaxV, capV, binBV, nilCheckV, bytesV, V.cells, V.stays, Orc.nothing, ho1, a6, q3, upd_ne hid, upd_ne hid', loadV_rp_str])
          rw [hline]
          exact next_end rfl (fin _ _)
      · have q2 : ((c : Int) = 35) = False := by simp; omega
        rw [if_neg h35] at hn
        (refine Runs.of_step Orc.nothing 300 ?_; simp -implicitDefEqProofs only [BB, Int.reduceEq, Int.reduceNe, Int.reduceLT, Int.reduceLE, Int.reduceGT, Int.reduceGE, Nat.reduceEqDiff, Nat.reduceAdd, Nat.reduceMul, Nat.reduceLeDiff, Nat.reduceSub, Nat.reduceLT, Nat.reduceBEq, ↓reduceIte, reduceCtorEq, ← decide_not, okind, vpre, vpure, intBin, intPre, strBin, strPre, popTo, argSlots, fldV, fldAV, subCells, idxVV, idxAAV, idxSV, sliceV, sliceSV, boundV, szIs, storeOp, storeS, setRowV, eff, extV, buildV, splice, eqSV, fitsL, eqCells, eqCell, minmaxV, capV, binBV, nilCheckV, bytesV, V.cells, V.stays, Orc.nothing, ho1, a6, hw', q2, upd_ne hid, upd_ne hid', loadV_rp_str])
        refine Runs.pcall rfl rfl rfl (digit_c c _) ?_
        by_cases hd : 48 ≤ c ∧ c ≤ 57
        · have hd' : isDig c = true := by simp [isDig]; omega
          rw [if_pos hd] at hn
          subst hn
          have hcb' := hcb (by omega)
          have hdp := digLen_pos (s := s) (i := i) (by omega) (by omega)
          have hdl : i + digLen (s.drop i) ≤ s.length := by have := digLen_le (s.drop i); simp at this; omega
          have hne : digsAt s i ≠ [] := fun e => by have := len_digs (s := s) (j := i); rw [e] at this; simp at this; omega
          obtain ⟨n, g1, g2⟩ := numV_T (digs_dig s i) hne
          (refine Runs.of_step Orc.nothing 300 ?_; simp -implicitDefEqProofs only [BB, Int.reduceEq, Int.reduceNe, Int.reduceLT, Int.reduceLE, Int.reduceGT, Int.reduceGE, Nat.reduceEqDiff, Nat.reduceAdd, Nat.reduceMul, Nat.reduceLeDiff, Nat.reduceSub, Nat.reduceLT, Nat.reduceBEq, ↓reduceIte, reduceCtorEq, ← decide_not, okind, vpre, vpure, intBin, intPre, strBin, strPre, popTo, argSlots, fldV, fldAV, subCells, idxVV, idxAAV, idxSV, sliceV, boundV, szIs, storeOp, storeS, setRowV, eff, extV, buildV, splice, eqSV, fitsL, eqCells, eqCell, minmaxV, capV, binBV, nilCheckV, bytesV, V.cells, V.stays, Orc.nothing, ho1, a6, hd', hslice, upd_ne hid, upd_ne hid', loadV_rp_str])
          refine Runs.pcall rfl rfl rfl (digits_c (s.drop i) (by simp; omega) _) ?_
          have r1 : inR .i64 ((i : Int) + (digLen (s.drop i) : Int)) := inR_i64 (by omega) (by omega)
          have hsl2 : sliceSV (.str s) (some (vI i)) (some (vI ((i : Int) + (digLen (s.drop i) : Int)))) = some (.str (digsAt s i)) := by
            simp only [sliceSV, boundV]
            rw [if_pos (by omega)]
            unfold digsAt
            congr 3
            omega
          (refine Runs.of_step Orc.nothing 300 ?_; simp -implicitDefEqProofs only [BB, Int.reduceEq, Int.reduceNe, Int.reduceLT, Int.reduceLE, Int.reduceGT, Int.reduceGE, Nat.reduceEqDiff, Nat.reduceAdd, Nat.reduceMul, Nat.reduceLeDiff, Nat.reduceSub, Nat.reduceLT, Nat.reduceBEq, ↓reduceIte, reduceCtorEq, ← decide_not, okind, vpre, vpure, intBin, intPre, strBin, strPre, popTo, argSlots, fldV, fldAV, subCells, idxVV, idxAAV, idxSV, sliceV, boundV, szIs, storeOp, storeS, setRowV, eff, extV, buildV, splice, eqSV, fitsL, eqCells, eqCell, minmaxV, capV, binBV, nilCheckV, bytesV, V.cells, V.stays, Orc.nothing, ho1, a6, r1, hsl2, upd_ne hid, upd_ne hid', loadV_rp_str])
          refine Runs.pcall rfl rfl rfl (number_c _ (digs_dig s i) hne _) ?_
          rw [g1]
          have hT : numT (digsAt s i) = (if numBad (digsAt s i) then (-1 : Int) else (numR (digsAt s i) : Int)) := rfl
          generalize numT (digsAt s i) = T at *
          cases hb : numBad (digsAt s i)
          · rw [hb, if_neg (by simp), ← g2 hb] at hT
            subst hT
            (refine Runs.of_step Orc.nothing 300 ?_; simp -implicitDefEqProofs only [BB, Int.reduceEq, Int.reduceNe, Int.reduceLT, Int.reduceLE, Int.reduceGT, Int.reduceGE, Nat.reduceEqDiff, Nat.reduceAdd, Nat.reduceMul, Nat.reduceLeDiff, Nat.reduceSub, Nat.reduceLT, Nat.reduceBEq, ↓reduceIte, reduceCtorEq, ← decide_not, okind, vpre, vpure, intBin, intPre, strBin, strPre, popTo, argSlots, fldV, fldAV, subCells, idxVV, idxAAV, idxSV, sliceV, sliceSV, boundV, szIs, storeOp, storeS, setRowV, eff, extV, buildV, splice, eqSV, fitsL, eqCells, eqCell, minmaxV, capV, binBV, nilCheckV, bytesV, V.cells, V.stays, Orc.nothing, ho1, a6, hb, upd_ne hid, upd_ne hid', loadV_rp_str])
            exact next_end rfl (fin _ _)
          · rw [hb, if_pos rfl] at hT
            subst hT
            (refine Runs.of_step Orc.nothing 300 ?_; simp -implicitDefEqProofs only [BB, Int.reduceEq, Int.reduceNe, Int.reduceLT, Int.reduceLE, Int.reduceGT, Int.reduceGE, Nat.reduceEqDiff, Nat.reduceAdd, Nat.reduceMul, Nat.reduceLeDiff, Nat.reduceSub, Nat.reduceLT, Nat.reduceBEq, ↓reduceIte, reduceCtorEq, ← decide_not, okind, vpre, vpure, intBin, intPre, strBin, strPre, popTo, argSlots, fldV, fldAV, subCells, idxVV, idxAAV, idxSV, sliceV, sliceSV, boundV, szIs, storeOp, storeS, setRowV, eff, extV, buildV, splice, eqSV, fitsL, eqCells, eqCell, minmaxV, capV, binBV, nilCheckV, bytesV, V.cells, V.stays, Orc.nothing, ho1, a6, hb, upd_ne hid, upd_ne hid', loadV_rp_str])
            exact next_end rfl (fin _ _)
        · have hd' : isDig c = false := by simp [isDig]; omega
          rw [if_neg hd] at hn
          subst hn
          (refine Runs.of_step Orc.nothing 300 ?_; simp -implicitDefEqProofs only [BB, Int.reduceEq, Int.reduceNe, Int.reduceLT, Int.reduceLE, Int.reduceGT, Int.reduceGE, Nat.reduceEqDiff, Nat.reduceAdd, Nat.reduceMul, Nat.reduceLeDiff, Nat.reduceSub, Nat.reduceLT, Nat.reduceBEq, ↓reduceIte, reduceCtorEq, ← decide_not, okind, vpre, vpure, intBin, intPre, strBin, strPre, popTo, argSlots, fldV, fldAV, subCells, idxVV, idxAAV, idxSV, sliceV, sliceSV, boundV, szIs, storeOp, storeS, setRowV, eff, extV, buildV, splice, eqSV, fitsL, eqCells, eqCell, minmaxV, capV, binBV, nilCheckV, bytesV, V.cells, V.stays, Orc.nothing, ho1, a6, hd', upd_ne hid, upd_ne hid', loadV_rp_str])
          exact next_end rfl (fin0 _)
end Go.Vc
namespace Go.Vc
open Go.Proofs
theorem allI_end {s : List UInt8} {skip i : Nat} (h : ¬ i < s.length) : allI s skip i = [] := by rw [allI, dif_neg h]
theorem allI_step {s : List UInt8} {skip i : Nat} (h : i < s.length) : allI s skip i = (nextI s skip i (decR s i).1).1.toList ++ allI s (nextI s skip i (decR s i).1).2 (i + (decR s i).2) := by
  rw [allI.eq_def s skip i, dif_pos h]
theorem nextI_le {s : List UInt8} {skip i c : Nat} (hi : i < s.length) (hk : skip ≤ s.length) : (nextI s skip i c).2 ≤ s.length := by
  unfold nextI
  split
  · exact hk
  · split
    · exact (lineEnd_le s i (by omega)).2
    · split
      · have := digLen_le (s.drop i); simp at this ⊢; omega
      · exact hk
theorem decR_ascii {s : List UInt8} {i : Nat} (hi : i < s.length) (h : (decR s i).1 ≤ 127) : (decR s i).1 = byt s i := by
  unfold decR at h ⊢
  by_cases hz : sizeR s i = 0
  · rw [if_pos hz] at h; simp at h
  · rw [if_neg hz] at h ⊢
    rcases sizeR_cases s i with g | g | g | g | g
    · exact absurd g hz
    · rw [g.1]; rfl
    · rw [g.1] at h; have : 64 * (byt s i - 192) + byt s (i + 1) - 128 ≤ 127 := h; omega
    · rw [g.1] at h; have h : 64 * (64 * (byt s i - 224) + byt s (i + 1) - 128) + byt s (i + 2) - 128 ≤ 127 := h
      exfalso
      have hq : sizeR s i = 3 := g.1
      unfold sizeR at hq
      rcases (show byt s i = 224 ∨ 225 ≤ byt s i by omega) with e | e
      · simp [inB, moreB, e] at hq; omega
      · omega
    · rw [g.1] at h; have h : 64 * (64 * (64 * (byt s i - 240) + byt s (i + 1) - 128) + byt s (i + 2) - 128) + byt s (i + 3) - 128 ≤ 127 := h
      exfalso
      have hq : sizeR s i = 4 := g.1
      unfold sizeR at hq
      rcases (show byt s i = 240 ∨ 241 ≤ byt s i by omega) with e | e
      · simp [inB, moreB, e] at hq; omega
      · omega
theorem decR_le2 (s : List UInt8) (i : Nat) : (decR s i).1 ≤ 2200000 := by
  unfold decR; split
  · simp
  · exact Nat.le_trans (runeR_lt s i) (by omega)
set_option maxRecDepth 100000 in
theorem all_iter (s : List UInt8) (hs : s.length ≤ 1000000) : Iter Tryd.prog 23 [.rp (.str s)] ((allI s 0 0).map fun t => [encT t]) := by
  refine ⟨k23, fun idl J Jx σ0 hy hJ => ?_⟩
  refine (Contract.of_runs Tryd.func23 e23 k23 (by simp [c23]) ?_).2
  refine Runs.mix 12 ?_
  (refine Runs.of_step Orc.nothing 300 ?_; simp -implicitDefEqProofs only [BB, Int.reduceEq, Int.reduceNe, Int.reduceLT, Int.reduceLE, Int.reduceGT, Int.reduceGE, Nat.reduceEqDiff, Nat.reduceAdd, Nat.reduceMul, Nat.reduceLeDiff, Nat.reduceSub, Nat.reduceLT, Nat.reduceBEq, ↓reduceIte, reduceCtorEq, ← decide_not, okind, vpre, vpure, intBin, intPre, strBin, strPre, popTo, argSlots, fldV, fldAV, subCells, idxVV, idxAAV, idxSV, sliceV, sliceSV, boundV, szIs, storeOp, storeS, setRowV, eff, extV, buildV, splice, eqSV, fitsL, eqCells, eqCell, minmaxV, capV, binBV, nilCheckV, bytesV, V.cells, V.stays, Orc.nothing, c23, loadV_rp_str])
  refine effR_new fun id3 σ1 s1 a3 f3 => ?_
  simp -implicitDefEqProofs only [BB, Int.reduceEq, Int.reduceNe, Int.reduceLT, Int.reduceLE, Int.reduceGT, Int.reduceGE, Nat.reduceEqDiff, Nat.reduceAdd, Nat.reduceMul, Nat.reduceLeDiff, Nat.reduceSub, Nat.reduceLT, Nat.reduceBEq, ↓reduceIte, reduceCtorEq, ← decide_not, okind, vpre, vpure, intBin, intPre, strBin, strPre, popTo, argSlots, fldV, fldAV, subCells, idxVV, idxAAV, idxSV, sliceV, sliceSV, boundV, szIs, storeOp, storeS, setRowV, eff, extV, buildV, splice, eqSV, fitsL, eqCells, eqCell, minmaxV, capV, binBV, nilCheckV, bytesV, V.cells, V.stays, a3, loadV_rp_str]
  refine Runs.rngS rfl rfl rfl fun idr hr => ?_
  have hr : (upd σ1 id3 ⟨3, 1, [vI 0]⟩) idr = none := hr
  have hne : id3 ≠ idr := by rintro rfl; rw [upd_same] at hr; cases hr
  have hr1 : σ1 idr = none := by rw [upd_ne hne.symm] at hr; exact hr
  (refine Runs.of_step Orc.nothing 300 ?_; simp -implicitDefEqProofs only [BB, Int.reduceEq, Int.reduceNe, Int.reduceLT, Int.reduceLE, Int.reduceGT, Int.reduceGE, Nat.reduceEqDiff, Nat.reduceAdd, Nat.reduceMul, Nat.reduceLeDiff, Nat.reduceSub, Nat.reduceLT, Nat.reduceBEq, ↓reduceIte, reduceCtorEq, ← decide_not, okind, vpre, vpure, intBin, intPre, strBin, strPre, popTo, argSlots, fldV, fldAV, subCells, idxVV, idxAAV, idxSV, sliceV, sliceSV, boundV, szIs, storeOp, storeS, setRowV, eff, extV, buildV, splice, eqSV, fitsL, eqCells, eqCell, minmaxV, capV, binBV, nilCheckV, bytesV, V.cells, V.stays, Orc.nothing])
  refine Runs.loop (fun m st => ∃ (j skip : Nat) (pre : List Tk) (σJ : Store), j ≤ s.length ∧ m = s.length - j ∧ skip ≤ s.length ∧ allI s 0 0 = pre ++ allI s skip j ∧ J (pre.map fun t => [encT t]) σJ ∧ SubStore σJ st.σ ∧
    σJ id3 = none ∧ σJ idr = none ∧ st.σ id3 = some ⟨3, 1, [vI skip]⟩ ∧ st.σ idr = some (gh (.stringIter ⟨s.toArray⟩ j)) ∧ st.s 0 = .yl idl ∧ st.s 4 = .fn 24 [.ptr id3 0 0, .rp (.str s)] ∧ st.s 11 = .gp idr) s.length ?_ ?_
  · refine ⟨0, 0, [], σ0, by omega, by omega, by omega, rfl, hJ, ?_, f3, s1.none hr1, ?_, ?_, rfl, rfl, rfl⟩
    · exact (s1.updK f3).updK (s1.none hr1)
    · show upd (upd σ1 id3 _) idr _ id3 = _
      rw [upd_ne hne, upd_same]; rfl
    · exact upd_same
  · rintro m ⟨s', σ'⟩ ⟨j, skip, pre, σJ, hj, rfl, hsk, hp, hJp, hsub, n3, nr, h3, hrow, h0, h4, h11⟩
    simp only at hsub h3 hrow h0 h4 h11
    refine Runs.mix 12 ?_
    (refine Runs.of_step Orc.nothing 300 ?_; simp -implicitDefEqProofs only [BB, Int.reduceEq, Int.reduceNe, Int.reduceLT, Int.reduceLE, Int.reduceGT, Int.reduceGE, Nat.reduceEqDiff, Nat.reduceAdd, Nat.reduceMul, Nat.reduceLeDiff, Nat.reduceSub, Nat.reduceLT, Nat.reduceBEq, ↓reduceIte, reduceCtorEq, ← decide_not, okind, vpre, vpure, intBin, intPre, strBin, strPre, popTo, argSlots, fldV, fldAV, subCells, idxVV, idxAAV, idxSV, sliceV, sliceSV, boundV, szIs, storeOp, storeS, setRowV, eff, extV, buildV, splice, eqSV, fitsL, eqCells, eqCell, minmaxV, capV, binBV, nilCheckV, bytesV, V.cells, V.stays, Orc.nothing])
    refine Runs.nxtS rfl rfl h11 hrow (fun hlt => ?_) (fun hlt => ?_)
    · rw [decode_decR hlt]
      have hle := decR_le hlt
      have hpos := decR_pos s j
      have hd2 := decR_le2 s j
      have hda := decR_ascii hlt
      have hst := allI_step (skip := skip) hlt
      have hnl := nextI_le (c := (decR s j).1) hlt hsk
      generalize decR s j = d at *
      obtain ⟨c, sz⟩ := d
      simp only at hle hpos hd2 hda hst hnl
      have hnr3 : idr ≠ id3 := hne.symm
      generalize hσ2 : upd σ' idr (gh (.stringIter ⟨s.toArray⟩ (j + sz))) = σ2
      have g3 : σ2 id3 = some ⟨3, 1, [vI skip]⟩ := by rw [← hσ2, upd_ne hne]; exact h3
      have gr : σ2 idr = some (gh (.stringIter ⟨s.toArray⟩ (j + sz))) := by rw [← hσ2, upd_same]
      have hsub2 : SubStore σJ σ2 := by rw [← hσ2]; exact hsub.updK nr
      (refine Runs.of_step Orc.nothing 300 ?_; simp -implicitDefEqProofs only [BB, Int.reduceEq, Int.reduceNe, Int.reduceLT, Int.reduceLE, Int.reduceGT, Int.reduceGE, Nat.reduceEqDiff, Nat.reduceAdd, Nat.reduceMul, Nat.reduceLeDiff, Nat.reduceSub, Nat.reduceLT, Nat.reduceBEq, ↓reduceIte, reduceCtorEq, ← decide_not, okind, vpre, vpure, intBin, intPre, strBin, strPre, popTo, argSlots, fldV, fldAV, subCells, idxVV, idxAAV, idxSV, sliceV, sliceSV, boundV, szIs, storeOp, storeS, setRowV, eff, extV, buildV, splice, eqSV, fitsL, eqCells, eqCell, minmaxV, capV, binBV, nilCheckV, bytesV, V.cells, V.stays, Orc.nothing, h0, h4, h11])
      refine Runs.call rfl rfl rfl (next_c s hs j c skip id3 hlt hd2 (fun h => hda h) hsk _ g3) ?_
      rintro r σ3 ⟨rfl, rfl⟩
      generalize nextI s skip j c = nx at *
      obtain ⟨t, sk⟩ := nx
      simp only at hst hnl ⊢
      generalize hσ3 : upd σ2 id3 ⟨3, 1, [vI sk]⟩ = σ3
      have g3' : σ3 id3 = some ⟨3, 1, [vI sk]⟩ := by rw [← hσ3, upd_same]
      have gr' : σ3 idr = some (gh (.stringIter ⟨s.toArray⟩ (j + sz))) := by rw [← hσ3, upd_ne hnr3]; exact gr
      have hsub3 : SubStore σJ σ3 := by rw [← hσ3]; exact hsub2.updK n3
      cases t with
      | none =>
        simp only [nextV]
        (refine Runs.of_step Orc.nothing 300 ?_; simp -implicitDefEqProofs only [BB, Int.reduceEq, Int.reduceNe, Int.reduceLT, Int.reduceLE, Int.reduceGT, Int.reduceGE, Nat.reduceEqDiff, Nat.reduceAdd, Nat.reduceMul, Nat.reduceLeDiff, Nat.reduceSub, Nat.reduceLT, Nat.reduceBEq, ↓reduceIte, reduceCtorEq, ← decide_not, okind, vpre, vpure, intBin, intPre, strBin, strPre, popTo, argSlots, fldV, fldAV, subCells, idxVV, idxAAV, idxSV, sliceV, sliceSV, boundV, szIs, storeOp, storeS, setRowV, eff, extV, buildV, splice, eqSV, fitsL, eqCells, eqCell, minmaxV, capV, binBV, nilCheckV, bytesV, V.cells, V.stays, Orc.nothing, h0, h4, h11])
        refine effR_new fun id7 σ4 s4 a7 f7 => ?_
        have m3 : id3 ≠ id7 := ne_new g3' f7
        have mr : idr ≠ id7 := ne_new gr' f7
        simp -implicitDefEqProofs only [BB, Int.reduceEq, Int.reduceNe, Int.reduceLT, Int.reduceLE, Int.reduceGT, Int.reduceGE, Nat.reduceEqDiff, Nat.reduceAdd, Nat.reduceMul, Nat.reduceLeDiff, Nat.reduceSub, Nat.reduceLT, Nat.reduceBEq, ↓reduceIte, reduceCtorEq, ← decide_not, okind, vpre, vpure, intBin, intPre, strBin, strPre, popTo, argSlots, fldV, fldAV, subCells, idxVV, idxAAV, idxSV, sliceV, sliceSV, boundV, szIs, storeOp, storeS, setRowV, eff, extV, buildV, splice, eqSV, fitsL, eqCells, eqCell, minmaxV, capV, binBV, nilCheckV, bytesV, V.cells, V.stays, a7, h0, h4, h11]
        refine ⟨_, ?_, j + sz, sk, pre, σJ, by omega, rfl, hnl, ?_, hJp, ?_, n3, nr, ?_⟩
        · omega
        · rw [hp, hst]; rfl
        · exact (hsub3.trans s4).updK (hsub3.none f7)
        · rw [upd_ne m3, upd_ne mr]
          simp [s4 _ _ g3', s4 _ _ gr', h0, h4, h11]
      | some t =>
        have hxs : ((allI s 0 0).map fun t => [encT t]) = (pre.map fun t => [encT t]) ++ [encT t] :: ((allI s sk (j + sz)).map fun t => [encT t]) := by
          rw [hp, hst]; simp
        simp only [nextV]
        have hcell : (encT t).cells = [vI t.kind, .int .i32 t.sign, vI t.n, vI t.at'] := rfl
        (refine Runs.of_step Orc.nothing 300 ?_; simp -implicitDefEqProofs only [BB, Int.reduceEq, Int.reduceNe, Int.reduceLT, Int.reduceLE, Int.reduceGT, Int.reduceGE, Nat.reduceEqDiff, Nat.reduceAdd, Nat.reduceMul, Nat.reduceLeDiff, Nat.reduceSub, Nat.reduceLT, Nat.reduceBEq, ↓reduceIte, reduceCtorEq, ← decide_not, okind, vpre, vpure, intBin, intPre, strBin, strPre, popTo, argSlots, fldV, fldAV, subCells, idxVV, idxAAV, idxSV, sliceV, sliceSV, boundV, szIs, storeOp, storeS, setRowV, eff, extV, buildV, splice, eqSV, fitsL, eqCells, eqCell, minmaxV, capV, binBV, nilCheckV, bytesV, V.cells, V.stays, Orc.nothing, h0, h4, h11, encT])
        refine effR_new fun id7 σ4 s4 a7 f7 => ?_
        have m3 : id3 ≠ id7 := ne_new g3' f7
        have mr : idr ≠ id7 := ne_new gr' f7
        simp -implicitDefEqProofs only [BB, Int.reduceEq, Int.reduceNe, Int.reduceLT, Int.reduceLE, Int.reduceGT, Int.reduceGE, Nat.reduceEqDiff, Nat.reduceAdd, Nat.reduceMul, Nat.reduceLeDiff, Nat.reduceSub, Nat.reduceLT, Nat.reduceBEq, ↓reduceIte, reduceCtorEq, ← decide_not, okind, vpre, vpure, intBin, intPre, strBin, strPre, popTo, argSlots, fldV, fldAV, subCells, idxVV, idxAAV, idxSV, sliceV, sliceSV, boundV, szIs, storeOp, storeS, setRowV, eff, extV, buildV, splice, eqSV, fitsL, eqCells, eqCell, minmaxV, capV, binBV, nilCheckV, bytesV, V.cells, V.stays, a7, h0, h4, h11]
        generalize hσ5 : upd σ4 id7 _ = σ5
        have g3'' : σ5 id3 = some ⟨3, 1, [vI sk]⟩ := by rw [← hσ5, upd_ne m3]; exact s4 _ _ g3'
        have gr'' : σ5 idr = some (gh (.stringIter ⟨s.toArray⟩ (j + sz))) := by rw [← hσ5, upd_ne mr]; exact s4 _ _ gr'
        have hsub5 : SubStore σJ σ5 := by rw [← hσ5]; exact (hsub3.trans s4).updK (hsub3.none f7)
        refine Runs.ycall (Post := fun b σ' => ∃ σJ', Beside σJ σ5 σJ' σ' ∧ ((b = true ∧ J ((pre.map fun t => [encT t]) ++ [[encT t]]) σJ') ∨ (b = false ∧ Jx ((pre.map fun t => [encT t]) ++ [[encT t]]) σJ'))) rfl rfl rfl (hy _ [encT t] _ σJ σ5 hxs hJp hsub5) ?_
        rintro b σ6 ⟨σJ', hbs, hb⟩
        obtain ⟨q3, q3'⟩ := hbs.2 id3 _ n3 g3''
        obtain ⟨qr, qr'⟩ := hbs.2 idr _ nr gr''
        rcases hb with ⟨rfl, hb⟩ | ⟨rfl, hb⟩
        · (refine Runs.of_step Orc.nothing 300 ?_; simp -implicitDefEqProofs only [BB, Int.reduceEq, Int.reduceNe, Int.reduceLT, Int.reduceLE, Int.reduceGT, Int.reduceGE, Nat.reduceEqDiff, Nat.reduceAdd, Nat.reduceMul, Nat.reduceLeDiff, Nat.reduceSub, Nat.reduceLT, Nat.reduceBEq, ↓reduceIte, reduceCtorEq, ← decide_not, okind, vpre, vpure, intBin, intPre, strBin, strPre, popTo, argSlots, fldV, fldAV, subCells, idxVV, idxAAV, idxSV, sliceV, sliceSV, boundV, szIs, storeOp, storeS, setRowV, eff, extV, buildV, splice, eqSV, fitsL, eqCells, eqCell, minmaxV, capV, binBV, nilCheckV, bytesV, V.cells, V.stays, Orc.nothing, h0, h4, h11])
          refine ⟨_, ?_, j + sz, sk, pre ++ [t], σJ', by omega, rfl, hnl, ?_, ?_, hbs.1, q3', qr', by simp [q3, qr, h0, h4, h11]⟩
          · omega
          · rw [hp, hst]; simp
          · show J ((pre ++ [t]).map fun t => [encT t]) σJ'
            rw [List.map_append]; exact hb
        · (refine Runs.of_step Orc.nothing 300 ?_; simp -implicitDefEqProofs only [BB, Int.reduceEq, Int.reduceNe, Int.reduceLT, Int.reduceLE, Int.reduceGT, Int.reduceGE, Nat.reduceEqDiff, Nat.reduceAdd, Nat.reduceMul, Nat.reduceLeDiff, Nat.reduceSub, Nat.reduceLT, Nat.reduceBEq, ↓reduceIte, reduceCtorEq, ← decide_not, okind, vpre, vpure, intBin, intPre, strBin, strPre, popTo, argSlots, fldV, fldAV, subCells, idxVV, idxAAV, idxSV, sliceV, sliceSV, boundV, szIs, storeOp, storeS, setRowV, eff, extV, buildV, splice, eqSV, fitsL, eqCells, eqCell, minmaxV, capV, binBV, nilCheckV, bytesV, V.cells, V.stays, Orc.nothing, h0, h4, h11])
          refine ⟨_, σJ', hbs.1, Wk.refl hbs.1 _, .inr ⟨(pre.map fun t => [encT t]) ++ [[encT t]], ?_, hb⟩⟩
          show _ <+: (allI s 0 0).map fun t => [encT t]
          rw [hxs]
          exact ⟨(allI s sk (j + sz)).map fun t => [encT t], by simp⟩
    · (refine Runs.of_step Orc.nothing 300 ?_; simp -implicitDefEqProofs only [BB, Int.reduceEq, Int.reduceNe, Int.reduceLT, Int.reduceLE, Int.reduceGT, Int.reduceGE, Nat.reduceEqDiff, Nat.reduceAdd, Nat.reduceMul, Nat.reduceLeDiff, Nat.reduceSub, Nat.reduceLT, Nat.reduceBEq, ↓reduceIte, reduceCtorEq, ← decide_not, okind, vpre, vpure, intBin, intPre, strBin, strPre, popTo, argSlots, fldV, fldAV, subCells, idxVV, idxAAV, idxSV, sliceV, sliceSV, boundV, szIs, storeOp, storeS, setRowV, eff, extV, buildV, splice, eqSV, fitsL, eqCells, eqCell, minmaxV, capV, binBV, nilCheckV, bytesV, V.cells, V.stays, Orc.nothing, h0, h4, h11])
      refine ⟨_, σJ, hsub, Wk.refl hsub _, .inl ?_⟩
      rw [hp, allI_end hlt, List.append_nil]
      exact hJp
end Go.Vc
namespace Go.Vc
open Go.Proofs
theorem all_c (s : List UInt8) : PFun Tryd.prog 18 [.str s] (.fn 23 [.rp (.str s)]) := fun σ => by
  refine Contract.of_runs Tryd.func18 e18 k18 (by simp [c18]) ?_
  refine Runs.mix 3 ?_
  (refine Runs.of_step Orc.nothing 300 ?_; simp -implicitDefEqProofs only [BB, Int.reduceEq, Int.reduceNe, Int.reduceLT, Int.reduceLE, Int.reduceGT, Int.reduceGE, Nat.reduceEqDiff, Nat.reduceAdd, Nat.reduceMul, Nat.reduceLeDiff, Nat.reduceSub, Nat.reduceLT, Nat.reduceBEq, ↓reduceIte, reduceCtorEq, ← decide_not, okind, vpre, vpure, intBin, intPre, strBin, strPre, popTo, argSlots, fldV, fldAV, subCells, idxVV, idxAAV, idxSV, sliceV, sliceSV, boundV, szIs, storeOp, storeS, setRowV, eff, extV, buildV, splice, eqSV, fitsL, eqCells, eqCell, minmaxV, capV, binBV, nilCheckV, bytesV, V.cells, V.stays, Orc.nothing, c18])
  refine effR_new fun id1 σ1 s1 a1 f1 => ?_
  simp -implicitDefEqProofs only [BB, Int.reduceEq, Int.reduceNe, Int.reduceLT, Int.reduceLE, Int.reduceGT, Int.reduceGE, Nat.reduceEqDiff, Nat.reduceAdd, Nat.reduceMul, Nat.reduceLeDiff, Nat.reduceSub, Nat.reduceLT, Nat.reduceBEq, ↓reduceIte, reduceCtorEq, ← decide_not, okind, vpre, vpure, intBin, intPre, strBin, strPre, popTo, argSlots, fldV, fldAV, subCells, idxVV, idxAAV, idxSV, sliceV, sliceSV, boundV, szIs, storeOp, storeS, setRowV, eff, extV, buildV, splice, eqSV, fitsL, eqCells, eqCell, minmaxV, capV, binBV, nilCheckV, bytesV, V.cells, V.stays]
  exact ⟨_, σ, s1, Wk.fn (vs' := [.rp (.str s)]) ⟨Wk.ptr s1 a1 f1, trivial⟩, rfl, rfl⟩
theorem T.pure {P : Program} {i : VIns} {x : St} {K : St → Prop} {v : V} (hw : wantV x.s i.g = some true) (hk : okind i.op = 0) (hp : vpre x.s i.op) (hv : vpure x.σ x.s i.op = some v) (h : K ⟨putO x.s i.dst v, x.σ⟩) : T P i x K := by
  unfold T
  simp only [hw]
  unfold TO
  simp only [hk]
  exact ⟨hp, v, hv, h⟩
theorem T.store {P : Program} {d : Option Nat} {sz : Nat} {xa xv : VX} {x : St} {K : St → Prop} {σ' : Store} (hv : storeS x.σ sz (xa.ev x.s) (xv.ev x.s) = some σ') (h : K ⟨putO x.s d (.tup []), σ'⟩) :
    T P ⟨d, .store sz xa xv, none⟩ x K := ⟨σ', hv, h⟩
theorem T.cell {P : Program} {S : Nat → V} {σx : Store} {sl id e : Nat} {old new : V} {xv : VX} {Kt : St → Prop} (h : S sl = .ptr id 0 0) (h2 : σx id = some ⟨e, 1, [old]⟩) (h3 : old.cells.length = 1) (h4 : xv.ev S = new)
    (h5 : new.cells.length = 1) (h6 : new.stays = true) (hk : Kt ⟨S, upd σx id ⟨e, 1, [new]⟩⟩) : T P ⟨none, .store 1 (.t sl) xv, none⟩ ⟨S, σx⟩ Kt := by
  have hs : setRowV old 0 1 new = some new := by simp [setRowV, h5, h6, h3]
  refine T.store (σ' := upd σx id ⟨e, 1, [new]⟩) ?_ hk
  show storeS σx 1 (S sl) (xv.ev S) = _
  rw [h, h4]
  simp only [storeS, h2, List.getElem?_cons_zero, hs, List.set_cons_zero]
theorem Beside.delO {σJ σ σJ' σ' : Store} (h : Beside σJ σ σJ' σ') {e : Option Nat} (he : ∀ i, e = some i → ∃ o, σJ' i = some o) : Beside σJ σ (Vc.delO σJ' e) (Vc.delO σ' e) := by
  cases e with
  | none => exact h
  | some e =>
    refine ⟨del_sub h.1, fun i o h1 h2 => ?_⟩
    obtain ⟨h3, h4⟩ := h.2 i o h1 h2
    have : i ≠ e := fun e' => by subst e'; obtain ⟨o', ho'⟩ := he i rfl; rw [h4] at ho'; cases ho'
    simp only [Vc.delO, del_ne this]
    exact ⟨h3, h4⟩
theorem OutV.dst' {K σJ σ1 : Store} {e sz : Nat} {v : V} {rows : List V} (h : OutV K σJ e sz v rows) (hs : SubStore σJ σ1) :
    ∃ idA, dstRows σ1 e sz v = some (rows, idA) ∧ ∀ i, idA = some i → K i = none ∧ ∃ o, σJ i = some o := by
  rcases h with ⟨rfl, rfl⟩ | ⟨id, rfl, ho, hk⟩
  · exact ⟨none, rfl, fun _ h => by cases h⟩
  · refine ⟨some id, ?_, fun i h => by cases h; exact ⟨hk, _, ho⟩⟩
    simp only [dstRows, hs _ _ ho]
    rw [if_pos ⟨trivial, trivial, trivial, Nat.le_refl _⟩, List.take_length]
theorem Ret_cells {s : Nat → V} {σ : Store} {a b c d e f g h i : _} {Post : V → Store → Prop} :
    Ret [.cell a b (.t c), .cell d e (.t f), .cell g h (.t i)] ⟨s, σ⟩ Post = onSome (loadV σ a b (s c)) fun v => onSome (loadV σ d e (s f)) fun u => onSome (loadV σ g h (s i)) fun w => RetV (.tup [v, u, w]) σ Post := by
  unfold Ret RetV resV
  simp only [resAll, resOne, VX.ev]
  cases loadV σ a b (s c) <;> simp [onSome]
  cases loadV σ d e (s f) <;> simp [onSome]
  cases loadV σ g h (s i) <;> simp [onSome]
/-- the rows that the loop holds -/
structure JOf (σ K : Store) (id2 id3 id4 : Nat) (v a b : V) (rows : List V) (σJ : Store) : Prop where
  r2 : σJ id2 = some ⟨23, 1, [v]⟩
  r3 : σJ id3 = some ⟨3, 1, [a]⟩
  r4 : σJ id4 = some ⟨24, 1, [b]⟩
  sub : SubStore σ σJ
  out : OutV K σJ 32 4 v rows
theorem nextI_at {s : List UInt8} {skip i c : Nat} {t : Tk} (h : (nextI s skip i c).1 = some t) : t.at' = i := by
  unfold nextI at h
  (repeat' split at h) <;> simp at h <;> subst h <;> rfl
theorem allI_at (s : List UInt8) : ∀ (m skip i : Nat), s.length - i ≤ m → ∀ t ∈ allI s skip i, 0 ≤ t.at'
  | m, skip, i, hm, t, ht => by
    by_cases hi : i < s.length
    · have hpos := decR_pos s i
      rw [allI_step hi, List.mem_append] at ht
      rcases ht with ht | ht
      · have := nextI_at (t := t) (by simpa using ht)
        omega
      · cases m with
        | zero => omega
        | succ m => exact allI_at s m _ _ (by omega) t ht
    · rw [allI_end hi] at ht; cases ht
theorem allI_len (s : List UInt8) : ∀ (m skip i : Nat), s.length - i ≤ m → (allI s skip i).length ≤ s.length - i
  | m, skip, i, hm => by
    by_cases hi : i < s.length
    · have hpos := decR_pos s i
      rw [allI_step hi, List.length_append]
      cases m with
      | zero => omega
      | succ m =>
        have := allI_len s m (nextI s skip i (decR s i).1).2 (i + (decR s i).2) (by omega)
        have h1 : (nextI s skip i (decR s i).1).1.toList.length ≤ 1 := by cases (nextI s skip i (decR s i).1).1 <;> simp
        omega
    · rw [allI_end hi]; simp
theorem fromT_ok : ∀ {L : List Tk}, (∀ t ∈ L, ¬ t.n < 0) → fromT L = .ok L
  | [], _ => rfl
  | t :: L, h => by
    have h1 : fromT L = .ok L := fromT_ok fun u hu => h u (List.mem_cons_of_mem _ hu)
    simp only [fromT, if_neg (h t List.mem_cons_self), h1, Res.cons]
theorem fromT_bad : ∀ {L : List Tk} {k : Nat} {t : Tk}, L[k]? = some t → t.n < 0 → (∀ u ∈ L.take k, ¬ u.n < 0) → fromT L = .bad t.at'.toNat
  | [], k, t, h, _, _ => by simp at h
  | u :: L, 0, t, h, hn, _ => by
    simp at h; subst h
    simp [fromT, hn]
  | u :: L, k + 1, t, h, hn, ha => by
    simp only [List.getElem?_cons_succ] at h
    simp only [List.take_succ_cons, List.mem_cons, forall_eq_or_imp] at ha
    simp [fromT, if_neg ha.1, fromT_bad h hn ha.2, Res.cons]
theorem badI_le (s : List UInt8) : ∀ (m i : Nat), s.length - i ≤ m → ∀ e, badI s i = some e → e < s.length
  | m, i, hm, e, h => by
    by_cases hi : i < s.length
    · by_cases hz : sizeR s i = 0
      · rw [badI_bad hi hz] at h; cases h; exact hi
      · rw [badI_step hi hz] at h
        cases m with
        | zero => omega
        | succ m => exact badI_le s m _ (by omega) e h
    · rw [badI_end hi] at h; cases h
theorem text_split (s : List UInt8) : ∃ (e : Nat) (ok : Bool), textV (badI s 0) = .tup [vI (if ok then 0 else (e : Int)), .bool ok] ∧ e ≤ s.length ∧
      ofC s = (match fromT (allI (s.take e) 0 0) with | .ok l => if ok then .ok l else .bad e | .bad p => .bad p) ∧ (ok = true → e = s.length) := by
  unfold ofC
  cases h : badI s 0 with
  | none =>
    refine ⟨s.length, true, rfl, Nat.le_refl _, ?_, fun _ => rfl⟩
    rw [List.take_length]
    simp only [if_true]
    cases fromT (allI s 0 0) <;> rfl
  | some e =>
    have := badI_le s s.length 0 (by omega) e h
    exact ⟨e, false, rfl, by omega, rfl, by simp⟩
theorem encT_cells (t : Tk) : (encT t).cells = [vI t.kind, .int .i32 t.sign, vI t.n, vI t.at'] := rfl
theorem encT_stays (t : Tk) : (encT t).stays = true := rfl
theorem encT_agg (t : Tk) : V.agg [vI t.kind, .int .i32 t.sign, vI t.n, vI t.at'] = encT t := rfl
set_option maxRecDepth 100000 in
theorem of_c (s : List UInt8) (hs : s.length ≤ 1000000) : PFun Tryd.prog 7 [.str s] (resT (ofC s)) := fun σ => by
  refine Contract.of_runs Tryd.func7 e7 k7 (by simp [c7]) ?_
  refine Runs.mix 8 ?_
  (refine Runs.of_step Orc.nothing 300 ?_; simp -implicitDefEqProofs only [BB, Int.reduceEq, Int.reduceNe, Int.reduceLT, Int.reduceLE, Int.reduceGT, Int.reduceGE, Nat.reduceEqDiff, Nat.reduceAdd, Nat.reduceMul, Nat.reduceLeDiff, Nat.reduceSub, Nat.reduceLT, Nat.reduceBEq, ↓reduceIte, reduceCtorEq, ← decide_not, okind, vpre, vpure, intBin, intPre, strBin, strPre, popTo, argSlots, fldV, fldAV, subCells, idxVV, idxAAV, idxSV, sliceV, sliceSV, boundV, szIs, storeOp, storeS, setRowV, eff, extV, buildV, splice, eqSV, fitsL, eqCells, eqCell, minmaxV, capV, binBV, nilCheckV, bytesV, V.cells, V.stays, Orc.nothing, c7])
  refine effR_new fun id2 σ1 s1 a2 f2 => ?_
  simp -implicitDefEqProofs only [BB, Int.reduceEq, Int.reduceNe, Int.reduceLT, Int.reduceLE, Int.reduceGT, Int.reduceGE, Nat.reduceEqDiff, Nat.reduceAdd, Nat.reduceMul, Nat.reduceLeDiff, Nat.reduceSub, Nat.reduceLT, Nat.reduceBEq, ↓reduceIte, reduceCtorEq, ← decide_not, okind, vpre, vpure, intBin, intPre, strBin, strPre, popTo, argSlots, fldV, fldAV, subCells, idxVV, idxAAV, idxSV, sliceV, sliceSV, boundV, szIs, storeOp, storeS, setRowV, eff, extV, buildV, splice, eqSV, fitsL, eqCells, eqCell, minmaxV, capV, binBV, nilCheckV, bytesV, V.cells, V.stays]
  refine effR_new fun id3 σ2 s2 a3 f3 => ?_
  simp -implicitDefEqProofs only [BB, Int.reduceEq, Int.reduceNe, Int.reduceLT, Int.reduceLE, Int.reduceGT, Int.reduceGE, Nat.reduceEqDiff, Nat.reduceAdd, Nat.reduceMul, Nat.reduceLeDiff, Nat.reduceSub, Nat.reduceLT, Nat.reduceBEq, ↓reduceIte, reduceCtorEq, ← decide_not, okind, vpre, vpure, intBin, intPre, strBin, strPre, popTo, argSlots, fldV, fldAV, subCells, idxVV, idxAAV, idxSV, sliceV, sliceSV, boundV, szIs, storeOp, storeS, setRowV, eff, extV, buildV, splice, eqSV, fitsL, eqCells, eqCell, minmaxV, capV, binBV, nilCheckV, bytesV, V.cells, V.stays]
  refine effR_new fun id4 σ3 s3 a4 f4 => ?_
  have n23 : id2 ≠ id3 := ne_new a2 f3
  have n24 : id2 ≠ id4 := ne_new (s2 _ _ a2) f4
  have n34 : id3 ≠ id4 := ne_new a3 f4
  have g2 := s3 _ _ (s2 _ _ a2)
  have g3 := s3 _ _ a3
  have hsσ : SubStore σ σ3 := (s1.trans s2).trans s3
  have z3 : σ id3 = none := s1.none f3
  have z4 : σ id4 = none := (s1.trans s2).none f4
  simp -implicitDefEqProofs only [BB, Int.reduceEq, Int.reduceNe, Int.reduceLT, Int.reduceLE, Int.reduceGT, Int.reduceGE, Nat.reduceEqDiff, Nat.reduceAdd, Nat.reduceMul, Nat.reduceLeDiff, Nat.reduceSub, Nat.reduceLT, Nat.reduceBEq, ↓reduceIte, reduceCtorEq, ← decide_not, okind, vpre, vpure, intBin, intPre, strBin, strPre, popTo, argSlots, fldV, fldAV, subCells, idxVV, idxAAV, idxSV, sliceV, sliceSV, boundV, szIs, storeOp, storeS, setRowV, eff, extV, buildV, splice, eqSV, fitsL, eqCells, eqCell, minmaxV, capV, binBV, nilCheckV, bytesV, V.cells, V.stays]
  refine Runs.pcall rfl rfl rfl (text_c s (by omega) _) ?_
  obtain ⟨e, ok, ht, hel, hw, hoe⟩ := text_split s
  rw [ht]
  have hsl : sliceSV (.str s) none (some (vI e)) = some (.str (s.take e)) := by
    simp only [sliceSV, boundV]
    rw [if_pos (by omega)]
    simp
  have hwl : (s.take e).length ≤ 1000000 := by simp; omega
  generalize hR : ofC s = R at *
  generalize s.take e = w at *
  have hit := all_iter w hwl
  generalize hL : allI w 0 0 = L at *
  have hLl : L.length ≤ 1000000 := by rw [← hL]; have := allI_len w w.length 0 0 (by omega); omega
  have hLa : ∀ t ∈ L, 0 ≤ t.at' := by rw [← hL]; exact allI_at w w.length 0 0 (by omega)
  clear hel
  -- the rows
  generalize hK : (fun i => if i = id2 ∨ i = id3 ∨ i = id4 then some (⟨0, 0, []⟩ : Ob) else σ i : Store) = K
  have hK0 : ∀ i, K i = none ↔ (i ≠ id2 ∧ i ≠ id3 ∧ i ≠ id4 ∧ σ i = none) := fun i => by
    rw [← hK]
    simp only
    split
    · rename_i h; simp; intro h1 h2 h3; simp_all
    · rename_i h; simp only [not_or] at h; simp [h]
  have hKσ : SubStore σ K := fun i o h => by
    rw [← hK]
    have h2 : i ≠ id2 := fun e' => by subst e'; rw [h] at f2; cases f2
    have h3 : i ≠ id3 := fun e' => by subst e'; rw [h] at z3; cases z3
    have h4 : i ≠ id4 := fun e' => by subst e'; rw [h] at z4; cases z4
    simp only [h2, h3, h4, or_self, if_false]
    exact h
  have hJ0 : JOf σ K id2 id3 id4 .nils (vI 0) (vI 0) [] σ3 := ⟨g2, g3, a4, hsσ, OutV.start⟩
  clear hK
  -- the loop
  cases ok
  · (refine Runs.of_step Orc.nothing 300 ?_; simp -implicitDefEqProofs only [BB, effR_some, effD_some, Int.reduceEq, Int.reduceNe, Int.reduceLT, Int.reduceLE, Int.reduceGT, Int.reduceGE, Nat.reduceEqDiff, Nat.reduceAdd, Nat.reduceMul, Nat.reduceLeDiff, Nat.reduceSub, Nat.reduceLT, Nat.reduceBEq, ↓reduceIte, reduceCtorEq, ← decide_not, okind, vpre, vpure, intBin, intPre, strBin, strPre, popTo, argSlots, fldV, fldAV, subCells, idxVV, idxAAV, idxSV, sliceV, boundV, szIs, storeOp, storeS, setRowV, eff, extV, buildV, splice, eqSV, fitsL, eqCells, eqCell, minmaxV, capV, binBV, nilCheckV, bytesV, V.cells, V.stays, Orc.nothing, hsl])
    refine Runs.pcall rfl rfl rfl (all_c w _) ?_
    (refine Runs.of_step Orc.nothing 300 ?_; simp -implicitDefEqProofs only [BB, effR_some, effD_some, Int.reduceEq, Int.reduceNe, Int.reduceLT, Int.reduceLE, Int.reduceGT, Int.reduceGE, Nat.reduceEqDiff, Nat.reduceAdd, Nat.reduceMul, Nat.reduceLeDiff, Nat.reduceSub, Nat.reduceLT, Nat.reduceBEq, ↓reduceIte, reduceCtorEq, ← decide_not, okind, vpre, vpure, intBin, intPre, strBin, strPre, popTo, argSlots, fldV, fldAV, subCells, idxVV, idxAAV, idxSV, sliceV, sliceSV, boundV, szIs, storeOp, storeS, setRowV, eff, extV, buildV, splice, eqSV, fitsL, eqCells, eqCell, minmaxV, capV, binBV, nilCheckV, bytesV, V.cells, V.stays, Orc.nothing])
    generalize hS : mix 8 _ _ = S
    have S2 : S 2 = .ptr id2 0 0 := by rw [← hS]; rfl
    have S3 : S 3 = .ptr id3 0 0 := by rw [← hS]; rfl
    have S4 : S 4 = .ptr id4 0 0 := by rw [← hS]; rfl
    have S5 : S 5 = vI e := by rw [← hS]; exact rfl
    have S6 : S 6 = .bool false := by rw [← hS]; rfl
    have S19 : S 19 = .fn 23 [.rp (.str w)] := by rw [← hS]; rfl
    clear hS
    refine Runs.rangeF (g := .t 19) (caps := [.rp (.str w)]) S19 hit (fun x hx => ?_) [] (fun pre σJ => (∀ t ∈ L.take pre.length, ¬ t.n < 0) ∧ ∃ v, JOf σ K id2 id3 id4 v (vI 0) (vI 0) ((L.take pre.length).map encT) σJ)
      (fun _ _ σJ => ∃ k t, L[k]? = some t ∧ t.n < 0 ∧ (∀ u ∈ L.take k, ¬ u.n < 0) ∧ JOf σ K id2 id3 id4 .nils (vI t.at') (vI 1) [] σJ) ?_ ?_ ?_ ?_ ?_
    · obtain ⟨t, _, rfl⟩ := List.mem_map.1 hx; rfl
    · exact ⟨by simp, .nils, by simpa using hJ0⟩
    · rintro pre x post σJ σB hxs ⟨hpre, v, J⟩ hsub
      obtain ⟨t, hti, rfl⟩ : ∃ t, L[pre.length]? = some t ∧ x = [encT t] := by
        have := congrArg (·[pre.length]?) hxs
        simp only [List.getElem?_map, List.getElem?_append_right (Nat.le_refl _), Nat.sub_self, List.getElem?_cons_zero, Option.map_eq_some_iff] at this
        obtain ⟨t, h1, h2⟩ := this
        exact ⟨t, h1, h2.symm⟩
      have htk : L.take (pre.length + 1) = L.take pre.length ++ [t] := by rw [List.take_add_one, hti]; rfl
      have hlen : (pre ++ [[encT t]]).length = pre.length + 1 := by simp
      rw [hlen, htk]
      have hkl : ((L.take pre.length).map encT).length ≤ 1000000 := by simp; omega
      have hvc : v.cells = [v] := by rcases J.out with ⟨rfl, _⟩ | ⟨_, rfl, _⟩ <;> rfl
      generalize hrows : (L.take pre.length).map encT = rows at *
      have b2 := hsub _ _ J.r2
      have b3 := hsub _ _ J.r3
      have b4 := hsub _ _ J.r4
      generalize hSS : putL S [20] [encT t] = S0
      have T2 : S0 2 = .ptr id2 0 0 := by rw [← hSS]; exact S2
      have T3 : S0 3 = .ptr id3 0 0 := by rw [← hSS]; exact S3
      have T4 : S0 4 = .ptr id4 0 0 := by rw [← hSS]; exact S4
      have T20 : S0 20 = encT t := by rw [← hSS]; rfl
      refine Runs.mix 8 ?_
      (refine Runs.of_step Orc.nothing 300 ?_; simp -implicitDefEqProofs only [BB, Int.reduceEq, Int.reduceNe, Int.reduceLT, Int.reduceLE, Int.reduceGT, Int.reduceGE, Nat.reduceEqDiff, Nat.reduceAdd, Nat.reduceMul, Nat.reduceLeDiff, Nat.reduceSub, Nat.reduceLT, Nat.reduceBEq, ↓reduceIte, reduceCtorEq, ← decide_not, okind, vpre, vpure, intBin, intPre, strBin, strPre, popTo, argSlots, fldV, fldAV, subCells, idxVV, idxAAV, idxSV, sliceV, sliceSV, boundV, szIs, storeOp, storeS, setRowV, eff, extV, buildV, splice, eqSV, fitsL, eqCells, eqCell, minmaxV, capV, binBV, nilCheckV, bytesV, V.cells, V.stays, Orc.nothing, T2, T3, T4, T20])
      rw [effR_some]
      intro id7 f7
      have m2 : id2 ≠ id7 := ne_new b2 f7
      have m3 : id3 ≠ id7 := ne_new b3 f7
      have m4 : id4 ≠ id7 := ne_new b4 f7
      simp -implicitDefEqProofs only [BB, Int.reduceEq, Int.reduceNe, Int.reduceLT, Int.reduceLE, Int.reduceGT, Int.reduceGE, Nat.reduceEqDiff, Nat.reduceAdd, Nat.reduceMul, Nat.reduceLeDiff, Nat.reduceSub, Nat.reduceLT, Nat.reduceBEq, ↓reduceIte, reduceCtorEq, ← decide_not, okind, vpre, vpure, intBin, intPre, strBin, strPre, popTo, argSlots, fldV, fldAV, subCells, idxVV, idxAAV, idxSV, sliceV, sliceSV, boundV, szIs, storeOp, storeS, setRowV, eff, extV, buildV, splice, eqSV, fitsL, eqCells, eqCell, minmaxV, capV, binBV, nilCheckV, bytesV, V.cells_agg, V.cells_int, V.cells_nils, V.cells_own, V.cells_sl, V.cells_str, V.cells_bool, V.cells_fn, V.cells_ptr, V.cells_rp, V.stays_agg, V.stays_int, V.stays_nils, V.stays_own, V.stays_sl, V.stays_str, V.stays_bool, V.stays_fn, V.stays_ptr, V.stays_rp, T2, T3, T4, T20, encT_cells, encT_stays]
      by_cases hn : t.n < 0
      · have hn' : (t.n < 0) = True := by simp [hn]
        (refine Runs.of_step Orc.nothing 300 ?_; simp -implicitDefEqProofs only [BB, Int.reduceEq, Int.reduceNe, Int.reduceLT, Int.reduceLE, Int.reduceGT, Int.reduceGE, Nat.reduceEqDiff, Nat.reduceAdd, Nat.reduceMul, Nat.reduceLeDiff, Nat.reduceSub, Nat.reduceLT, Nat.reduceBEq, ↓reduceIte, reduceCtorEq, ← decide_not, okind, vpre, vpure, intBin, intPre, strBin, strPre, popTo, argSlots, fldV, fldAV, subCells, idxVV, idxAAV, idxSV, sliceV, sliceSV, boundV, szIs, storeOp, storeS, setRowV, eff, extV, buildV, splice, eqSV, fitsL, eqCells, eqCell, minmaxV, capV, binBV, nilCheckV, bytesV, Orc.nothing, V.cells_agg, V.cells_int, V.cells_nils, V.cells_own, V.cells_sl, V.cells_str, V.cells_bool, V.cells_fn, V.cells_ptr, V.cells_rp, V.stays_agg, V.stays_int, V.stays_nils, V.stays_own, V.stays_sl, V.stays_str, V.stays_bool, V.stays_fn, V.stays_ptr, V.stays_rp, encT_cells, encT_stays, T2, T3, T4, T20, hn', s_r_regA])
        refine Runs.regA (by kernel_rfl) ?_
        generalize hSX : mix 8 _ _ = SX
        have X2 : SX 2 = .ptr id2 0 0 := by rw [← hSX]; exact T2
        have X3 : SX 3 = .ptr id3 0 0 := by rw [← hSX]; exact T3
        have X4 : SX 4 = .ptr id4 0 0 := by rw [← hSX]; exact T4
        have X7 : SX 7 = .ptr id7 0 0 := by rw [← hSX]; rfl
        clear hSX
        generalize hσ7 : upd σB id7 ⟨32, 4, [encT t]⟩ = σ7
        have y2 : σ7 id2 = some ⟨23, 1, [v]⟩ := by rw [← hσ7, upd_ne m2]; exact b2
        have y3 : σ7 id3 = some ⟨3, 1, [vI 0]⟩ := by rw [← hσ7, upd_ne m3]; exact b3
        have y4 : σ7 id4 = some ⟨24, 1, [vI 0]⟩ := by rw [← hσ7, upd_ne m4]; exact b4
        have y7 : σ7 id7 = some ⟨32, 4, [encT t]⟩ := by rw [← hσ7, upd_same]
        have hB : Beside σJ σB σJ σ7 := by rw [← hσ7]; exact (Beside.refl hsub).new' f7
        clear hσ7
        have st0 : ∀ (Kt : St → Prop) (S : Nat → V) (σx : Store), S 7 = .ptr id7 0 0 → Kt ⟨putO S (some 24) (.ptr id7 0 3), σx⟩ → T Tryd.prog ⟨some 24, .fldA false 3 1 (.t 7), none⟩ ⟨S, σx⟩ Kt :=
          fun Kt S σx h hk => T.pure rfl rfl trivial (by simp [vpure, VX.ev, fldAV, h]) hk
        have st1 : ∀ (Kt : St → Prop) (S : Nat → V) (σx : Store), S 24 = .ptr id7 0 3 → σx id7 = some ⟨32, 4, [encT t]⟩ → Kt ⟨putO S (some 25) (vI t.at'), σx⟩ → T Tryd.prog ⟨some 25, .load false 1 (.t 24), none⟩ ⟨S, σx⟩ Kt :=
          fun Kt S σx h h2 hk => T.pure rfl rfl trivial (by simp [vpure, VX.ev, loadV, h, h2, encT_cells]) hk
        have fin : ∀ (S : Nat → V) (kk : List It), Runs Tryd.prog 34 (.code .ret :: kk) ⟨S, upd (upd (upd σ7 id2 ⟨23, 1, [.nils]⟩) id3 ⟨3, 1, [vI t.at']⟩) id4 ⟨24, 1, [vI 1]⟩⟩ (fun st2 =>
            ∃ σ2, Beside σJ σB σ2 st2.σ ∧ ∃ k t, L[k]? = some t ∧ t.n < 0 ∧ (∀ u ∈ L.take k, ¬ u.n < 0) ∧ JOf σ K id2 id3 id4 .nils (vI t.at') (vI 1) [] σ2) := fun S kk => Runs.ret ⟨_,
              ((hB.set (o' := ⟨23, 1, [.nils]⟩) J.r2).set (o' := ⟨3, 1, [vI t.at']⟩) (by rw [upd_ne n23.symm]; exact J.r3)).set (o' := ⟨24, 1, [vI 1]⟩) (by rw [upd_ne n34.symm, upd_ne n24.symm]; exact J.r4),
              pre.length, t, hti, hn, hpre, by rw [upd_ne n24, upd_ne n23, upd_same], by rw [upd_ne n34, upd_same], upd_same, ((J.sub.updK f2).updK z3).updK z4, OutV.start⟩
        have tail : ∀ (S : Nat → V) (kk : List It), S 3 = .ptr id3 0 0 → S 4 = .ptr id4 0 0 → S 25 = vI t.at' →
            T Tryd.prog ⟨none, .store 1 (.t 3) (.t 25), none⟩ ⟨S, upd σ7 id2 ⟨23, 1, [.nils]⟩⟩ (fun x => T Tryd.prog ⟨none, .store 1 (.t 4) (.c (.int .i64 1)), none⟩ x (fun x => ([] : List Nat) = [] ∧
              Runs Tryd.prog 34 (.code .ret :: kk) x (fun st2 => ∃ σ2, Beside σJ σB σ2 st2.σ ∧ ∃ k t, L[k]? = some t ∧ t.n < 0 ∧ (∀ u ∈ L.take k, ¬ u.n < 0) ∧ JOf σ K id2 id3 id4 .nils (vI t.at') (vI 1) [] σ2)) ∧ True) :=
          fun S kk h3 h4 h25 => T.cell h3 (by rw [upd_ne n23.symm]; exact y3) rfl h25 rfl rfl
            ⟨T.cell h4 (by rw [upd_ne n34.symm, upd_ne n24.symm]; exact y4) rfl rfl rfl rfl ⟨rfl, fin _ _⟩, trivial⟩
        have hv1 : v.cells.length = 1 := by rw [hvc]; rfl
        refine ⟨st0 _ _ _ X7 ⟨st1 _ _ _ rfl y7 ⟨T.cell (e := 23) X2 y2 hv1 rfl rfl rfl ⟨tail _ _ X3 X4 rfl, trivial⟩, trivial⟩, T.cell (e := 23) X2 y2 hv1 rfl rfl rfl ⟨st1 _ _ _ rfl (by rw [upd_ne m2.symm]; exact y7) ⟨tail _ _ X3 X4 rfl, trivial⟩, trivial⟩, trivial⟩,
          T.cell (e := 23) X2 y2 hv1 rfl rfl rfl ⟨st0 _ _ _ X7 ⟨st1 _ _ _ rfl (by rw [upd_ne m2.symm]; exact y7) ⟨tail _ _ X3 X4 rfl, trivial⟩, trivial⟩, trivial⟩, trivial⟩
      · have hn' : (t.n < 0) = False := by simp [hn]
        (refine Runs.of_step Orc.nothing 300 ?_; simp -implicitDefEqProofs only [BB, Int.reduceEq, Int.reduceNe, Int.reduceLT, Int.reduceLE, Int.reduceGT, Int.reduceGE, Nat.reduceEqDiff, Nat.reduceAdd, Nat.reduceMul, Nat.reduceLeDiff, Nat.reduceSub, Nat.reduceLT, Nat.reduceBEq, ↓reduceIte, reduceCtorEq, ← decide_not, okind, vpre, vpure, intBin, intPre, strBin, strPre, popTo, argSlots, fldV, fldAV, subCells, idxVV, idxAAV, idxSV, sliceV, sliceSV, boundV, szIs, storeOp, storeS, setRowV, eff, extV, buildV, splice, eqSV, fitsL, eqCells, eqCell, minmaxV, capV, binBV, nilCheckV, bytesV, Orc.nothing, V.cells_agg, V.cells_int, V.cells_nils, V.cells_own, V.cells_sl, V.cells_str, V.cells_bool, V.cells_fn, V.cells_ptr, V.cells_rp, V.stays_agg, V.stays_int, V.stays_nils, V.stays_own, V.stays_sl, V.stays_str, V.stays_bool, V.stays_fn, V.stays_ptr, V.stays_rp, encT_cells, encT_stays, encT_agg, hvc, T2, T3, T4, T20, hn', b2, upd_ne m2])
        rw [effR_some]
        intro id28 f28
        have hBs := ((Beside.refl hsub).new' (o := ⟨32, 4, [encT t]⟩) f7).new' (o := ⟨32, 4, [encT t]⟩) f28
        have f28' : (upd σB id7 ⟨32, 4, [encT t]⟩) id28 = none := f28
        have y2 : upd (upd σB id7 ⟨32, 4, [encT t]⟩) id28 ⟨32, 4, [encT t]⟩ id2 = some ⟨23, 1, [v]⟩ := by
          rw [upd_ne (fun e => by rw [← e, upd_ne m2, b2] at f28'; cases f28'), upd_ne m2]; exact b2
        have a28 : upd (upd σB id7 ⟨32, 4, [encT t]⟩) id28 ⟨32, 4, [encT t]⟩ id28 = some ⟨32, 4, [encT t]⟩ := upd_same
        generalize upd (upd σB id7 ⟨32, 4, [encT t]⟩) id28 ⟨32, 4, [encT t]⟩ = σ8 at *
        obtain ⟨idA, hda, hdA⟩ := J.out.dst' hBs.1
        have hb2 : (rows.length + 1) * 33 ≤ 140737488355328 := by omega
        have k2 : K id2 ≠ none := fun h => ((hK0 id2).1 h).1 rfl
        have k3 : K id3 ≠ none := fun h => ((hK0 id3).1 h).2.1 rfl
        have k4 : K id4 ≠ none := fun h => ((hK0 id4).1 h).2.2.1 rfl
        have dne : ∀ (i : Nat) (σx : Store), K i ≠ none → Vc.delO σx idA i = σx i := fun i σx hk => by
          cases idA with
          | none => rfl
          | some a => exact del_ne (fun e => hk (by rw [e]; exact (hdA a rfl).1))
        simp -implicitDefEqProofs only [BB, Int.reduceEq, Int.reduceNe, Int.reduceLT, Int.reduceLE, Int.reduceGT, Int.reduceGE, Nat.reduceEqDiff, Nat.reduceAdd, Nat.reduceMul, Nat.reduceLeDiff, Nat.reduceSub, Nat.reduceLT, Nat.reduceBEq, ↓reduceIte, reduceCtorEq, ← decide_not, okind, vpre, vpure, intBin, intPre, strBin, strPre, popTo, argSlots, fldV, fldAV, subCells, idxVV, idxAAV, idxSV, sliceV, sliceSV, boundV, szIs, storeOp, storeS, setRowV, eff, extV, buildV, splice, eqSV, fitsL, eqCells, eqCell, minmaxV, capV, binBV, nilCheckV, bytesV, V.cells_agg, V.cells_int, V.cells_nils, V.cells_own, V.cells_sl, V.cells_str, V.cells_bool, V.cells_fn, V.cells_ptr, V.cells_rp, V.stays_agg, V.stays_int, V.stays_nils, V.stays_own, V.stays_sl, V.stays_str, V.stays_bool, V.stays_fn, V.stays_ptr, V.stays_rp, encT_cells, encT_stays, hda, srcOne a28, hb2, T2, T3, T4]
        rw [effR_some]
        intro id29 f29
        have f29 : σ8 id29 = none := f29
        have m29 : id2 ≠ id29 := ne_new y2 f29
        have f29' : Vc.delO σ8 idA id29 = none := by
          cases idA with
          | none => exact f29
          | some a => simp only [Vc.delO, del]; split <;> first | rfl | exact f29
        have y2' : upd (Vc.delO σ8 idA) id29 ⟨32, 4, rows ++ [encT t]⟩ id2 = some ⟨23, 1, [v]⟩ := by rw [upd_ne m29, dne _ _ k2]; exact y2
        have hB9 := ((hBs.delO (e := idA) fun i h => (hdA i h).2).new (o := ⟨32, 4, rows ++ [encT t]⟩) f29').set (id := id2) (o := ⟨23, 1, [v]⟩) (o' := ⟨23, 1, [.own id29 0 (rows.length + 1)]⟩) (by rw [upd_ne m29, dne _ _ k2]; exact J.r2)
        simp -implicitDefEqProofs only [BB, Int.reduceEq, Int.reduceNe, Int.reduceLT, Int.reduceLE, Int.reduceGT, Int.reduceGE, Nat.reduceEqDiff, Nat.reduceAdd, Nat.reduceMul, Nat.reduceLeDiff, Nat.reduceSub, Nat.reduceLT, Nat.reduceBEq, ↓reduceIte, reduceCtorEq, ← decide_not, okind, vpre, vpure, intBin, intPre, strBin, strPre, popTo, argSlots, fldV, fldAV, subCells, idxVV, idxAAV, idxSV, sliceV, sliceSV, boundV, szIs, storeOp, storeS, setRowV, eff, extV, buildV, splice, eqSV, fitsL, eqCells, eqCell, minmaxV, capV, binBV, nilCheckV, bytesV, V.cells_agg, V.cells_int, V.cells_nils, V.cells_own, V.cells_sl, V.cells_str, V.cells_bool, V.cells_fn, V.cells_ptr, V.cells_rp, V.stays_agg, V.stays_int, V.stays_nils, V.stays_own, V.stays_sl, V.stays_str, V.stays_bool, V.stays_fn, V.stays_ptr, V.stays_rp, hvc, y2', T2, T3, T4]
        refine ⟨_, hB9, ?_, .own id29 0 (rows.length + 1), ⟨upd_same, ?_, ?_, ?_, ?_⟩⟩
        · intro u hu
          rcases List.mem_append.1 hu with hu | hu
          · exact hpre u hu
          · simp only [List.mem_singleton] at hu; subst hu; exact hn
        · rw [upd_ne n23.symm, upd_ne (ne_new (hBs.1 _ _ J.r3) f29), dne _ _ k3]; exact J.r3
        · rw [upd_ne n24.symm, upd_ne (ne_new (hBs.1 _ _ J.r4) f29), dne _ _ k4]; exact J.r4
        · refine SubStore.updK (fun i o h => ?_) f2
          have h1 := J.sub _ _ h
          rw [upd_ne (ne_new (hBs.1 _ _ h1) f29), dne _ _ (fun hk => by rw [((hK0 i).1 hk).2.2.2] at h; cases h)]
          exact h1
        · rw [List.map_append, hrows]
          refine OutV.new (by simp) (by rw [upd_ne m29.symm, upd_same]; rfl) ?_
          rw [hK0]
          refine ⟨m29.symm, (ne_new (hBs.1 _ _ J.r3) f29).symm, (ne_new (hBs.1 _ _ J.r4) f29).symm, ?_⟩
          cases h : σ id29 with
          | none => rfl
          | some o => rw [hBs.1 _ _ (J.sub _ _ h)] at f29; cases f29
    · rintro σ' ⟨hall, v, J⟩
      rw [List.length_map, List.take_length] at hall J
      have hfr := fromT_ok hall
      rw [hfr] at hw
      have hvc : v.cells = [v] := by rcases J.out with ⟨rfl, _⟩ | ⟨_, rfl, _⟩ <;> rfl
      have hvs : v.stays = true := by rcases J.out with ⟨rfl, _⟩ | ⟨_, rfl, _⟩ <;> rfl
      have o2 := J.r2
      have o3 := J.r3
      have o4 := J.r4
      refine Runs.mix 8 ?_
      (refine Runs.of_step Orc.nothing 300 ?_; simp -implicitDefEqProofs only [BB, Int.reduceEq, Int.reduceNe, Int.reduceLT, Int.reduceLE, Int.reduceGT, Int.reduceGE, Nat.reduceEqDiff, Nat.reduceAdd, Nat.reduceMul, Nat.reduceLeDiff, Nat.reduceSub, Nat.reduceLT, Nat.reduceBEq, ↓reduceIte, reduceCtorEq, ← decide_not, okind, vpre, vpure, intBin, intPre, strBin, strPre, popTo, argSlots, fldV, fldAV, subCells, idxVV, idxAAV, idxSV, sliceV, sliceSV, boundV, szIs, storeOp, storeS, setRowV, eff, extV, buildV, splice, eqSV, fitsL, eqCells, eqCell, minmaxV, capV, binBV, nilCheckV, bytesV, Orc.nothing, V.cells_agg, V.cells_int, V.cells_nils, V.cells_own, V.cells_sl, V.cells_str, V.cells_bool, V.cells_fn, V.cells_ptr, V.cells_rp, V.stays_agg, V.stays_int, V.stays_nils, V.stays_own, V.stays_sl, V.stays_str, V.stays_bool, V.stays_fn, V.stays_ptr, V.stays_rp, S2, S3, S4, S5, S6, o2, o3, o4, hvc, hvs, upd_ne n23, upd_ne n23.symm, upd_ne n24, upd_ne n24.symm, upd_ne n34, upd_ne n34.symm, Ret_cells])
      have hsub' : ∀ a b c : Ob, SubStore σ (upd (upd (upd σ' id2 a) id3 b) id4 c) := fun a b c => ((J.sub.updK f2).updK z3).updK z4
      refine ⟨_, σ, hsub' _ _ _, Wk.tup (vs' := [.sl 4 [], vI e, vI 1]) ⟨Wk.nils 4, Wk.refl (hsub' _ _ _) _, Wk.refl (hsub' _ _ _) _, trivial⟩, ?_, rfl⟩
      rw [hw]; rfl
    · intro id h; cases h
    · rintro pre σ' _ ⟨k, t, h1, h2, h3, J⟩
      rw [fromT_bad h1 h2 h3] at hw
      have hat := hLa t (List.mem_of_getElem? h1)
      refine Runs.ret ?_
      rw [Ret_cells]
      have o2 := J.r2
      have o3 := J.r3
      have o4 := J.r4
      simp only [S2, S3, S4, loadV, o2, o3, o4]
      refine ⟨_, σ, J.sub, Wk.tup (vs' := [.sl 4 [], vI t.at', vI 1]) ⟨Wk.nils 4, Wk.refl J.sub _, Wk.refl J.sub _, trivial⟩, ?_, rfl⟩
      rw [hw]
      show _ = V.tup [.sl 4 [], vI (t.at'.toNat : Int), vI 1]
      rw [Int.toNat_of_nonneg hat]
  · have he := hoe rfl
    rw [he] at hsl
    (refine Runs.of_step Orc.nothing 300 ?_; simp -implicitDefEqProofs only [BB, effR_some, effD_some, Int.reduceEq, Int.reduceNe, Int.reduceLT, Int.reduceLE, Int.reduceGT, Int.reduceGE, Nat.reduceEqDiff, Nat.reduceAdd, Nat.reduceMul, Nat.reduceLeDiff, Nat.reduceSub, Nat.reduceLT, Nat.reduceBEq, ↓reduceIte, reduceCtorEq, ← decide_not, okind, vpre, vpure, intBin, intPre, strBin, strPre, popTo, argSlots, fldV, fldAV, subCells, idxVV, idxAAV, idxSV, sliceV, boundV, szIs, storeOp, storeS, setRowV, eff, extV, buildV, splice, eqSV, fitsL, eqCells, eqCell, minmaxV, capV, binBV, nilCheckV, bytesV, V.cells, V.stays, Orc.nothing, hsl])
    refine Runs.pcall rfl rfl rfl (all_c w _) ?_
    (refine Runs.of_step Orc.nothing 300 ?_; simp -implicitDefEqProofs only [BB, effR_some, effD_some, Int.reduceEq, Int.reduceNe, Int.reduceLT, Int.reduceLE, Int.reduceGT, Int.reduceGE, Nat.reduceEqDiff, Nat.reduceAdd, Nat.reduceMul, Nat.reduceLeDiff, Nat.reduceSub, Nat.reduceLT, Nat.reduceBEq, ↓reduceIte, reduceCtorEq, ← decide_not, okind, vpre, vpure, intBin, intPre, strBin, strPre, popTo, argSlots, fldV, fldAV, subCells, idxVV, idxAAV, idxSV, sliceV, sliceSV, boundV, szIs, storeOp, storeS, setRowV, eff, extV, buildV, splice, eqSV, fitsL, eqCells, eqCell, minmaxV, capV, binBV, nilCheckV, bytesV, V.cells, V.stays, Orc.nothing])
    generalize hS : mix 8 _ _ = S
    have S2 : S 2 = .ptr id2 0 0 := by rw [← hS]; rfl
    have S3 : S 3 = .ptr id3 0 0 := by rw [← hS]; rfl
    have S4 : S 4 = .ptr id4 0 0 := by rw [← hS]; rfl
    have S5 : S 5 = vI e := by rw [← hS, he]; rfl
    have S6 : S 6 = .bool true := by rw [← hS]; rfl
    have S19 : S 19 = .fn 23 [.rp (.str w)] := by rw [← hS]; rfl
    clear hS
    refine Runs.rangeF (g := .t 19) (caps := [.rp (.str w)]) S19 hit (fun x hx => ?_) [] (fun pre σJ => (∀ t ∈ L.take pre.length, ¬ t.n < 0) ∧ ∃ v, JOf σ K id2 id3 id4 v (vI 0) (vI 0) ((L.take pre.length).map encT) σJ)
      (fun _ _ σJ => ∃ k t, L[k]? = some t ∧ t.n < 0 ∧ (∀ u ∈ L.take k, ¬ u.n < 0) ∧ JOf σ K id2 id3 id4 .nils (vI t.at') (vI 1) [] σJ) ?_ ?_ ?_ ?_ ?_
    · obtain ⟨t, _, rfl⟩ := List.mem_map.1 hx; rfl
    · exact ⟨by simp, .nils, by simpa using hJ0⟩
    · rintro pre x post σJ σB hxs ⟨hpre, v, J⟩ hsub
      obtain ⟨t, hti, rfl⟩ : ∃ t, L[pre.length]? = some t ∧ x = [encT t] := by
        have := congrArg (·[pre.length]?) hxs
        simp only [List.getElem?_map, List.getElem?_append_right (Nat.le_refl _), Nat.sub_self, List.getElem?_cons_zero, Option.map_eq_some_iff] at this
        obtain ⟨t, h1, h2⟩ := this
        exact ⟨t, h1, h2.symm⟩
      have htk : L.take (pre.length + 1) = L.take pre.length ++ [t] := by rw [List.take_add_one, hti]; rfl
      have hlen : (pre ++ [[encT t]]).length = pre.length + 1 := by simp
      rw [hlen, htk]
      have hkl : ((L.take pre.length).map encT).length ≤ 1000000 := by simp; omega
      have hvc : v.cells = [v] := by rcases J.out with ⟨rfl, _⟩ | ⟨_, rfl, _⟩ <;> rfl
      generalize hrows : (L.take pre.length).map encT = rows at *
      have b2 := hsub _ _ J.r2
      have b3 := hsub _ _ J.r3
      have b4 := hsub _ _ J.r4
      generalize hSS : putL S [20] [encT t] = S0
      have T2 : S0 2 = .ptr id2 0 0 := by rw [← hSS]; exact S2
      have T3 : S0 3 = .ptr id3 0 0 := by rw [← hSS]; exact S3
      have T4 : S0 4 = .ptr id4 0 0 := by rw [← hSS]; exact S4
      have T20 : S0 20 = encT t := by rw [← hSS]; rfl
      refine Runs.mix 8 ?_
      (refine Runs.of_step Orc.nothing 300 ?_; simp -implicitDefEqProofs only [BB, Int.reduceEq, Int.reduceNe, Int.reduceLT, Int.reduceLE, Int.reduceGT, Int.reduceGE, Nat.reduceEqDiff, Nat.reduceAdd, Nat.reduceMul, Nat.reduceLeDiff, Nat.reduceSub, Nat.reduceLT, Nat.reduceBEq, ↓reduceIte, reduceCtorEq, ← decide_not, okind, vpre, vpure, intBin, intPre, strBin, strPre, popTo, argSlots, fldV, fldAV, subCells, idxVV, idxAAV, idxSV, sliceV, sliceSV, boundV, szIs, storeOp, storeS, setRowV, eff, extV, buildV, splice, eqSV, fitsL, eqCells, eqCell, minmaxV, capV, binBV, nilCheckV, bytesV, V.cells, V.stays, Orc.nothing, T2, T3, T4, T20])
      rw [effR_some]
      intro id7 f7
      have m2 : id2 ≠ id7 := ne_new b2 f7
      have m3 : id3 ≠ id7 := ne_new b3 f7
      have m4 : id4 ≠ id7 := ne_new b4 f7
      simp -implicitDefEqProofs only [BB, Int.reduceEq, Int.reduceNe, Int.reduceLT, Int.reduceLE, Int.reduceGT, Int.reduceGE, Nat.reduceEqDiff, Nat.reduceAdd, Nat.reduceMul, Nat.reduceLeDiff, Nat.reduceSub, Nat.reduceLT, Nat.reduceBEq, ↓reduceIte, reduceCtorEq, ← decide_not, okind, vpre, vpure, intBin, intPre, strBin, strPre, popTo, argSlots, fldV, fldAV, subCells, idxVV, idxAAV, idxSV, sliceV, sliceSV, boundV, szIs, storeOp, storeS, setRowV, eff, extV, buildV, splice, eqSV, fitsL, eqCells, eqCell, minmaxV, capV, binBV, nilCheckV, bytesV, V.cells_agg, V.cells_int, V.cells_nils, V.cells_own, V.cells_sl, V.cells_str, V.cells_bool, V.cells_fn, V.cells_ptr, V.cells_rp, V.stays_agg, V.stays_int, V.stays_nils, V.stays_own, V.stays_sl, V.stays_str, V.stays_bool, V.stays_fn, V.stays_ptr, V.stays_rp, T2, T3, T4, T20, encT_cells, encT_stays]
      by_cases hn : t.n < 0
      · have hn' : (t.n < 0) = True := by simp [hn]
        (refine Runs.of_step Orc.nothing 300 ?_; simp -implicitDefEqProofs only [BB, Int.reduceEq, Int.reduceNe, Int.reduceLT, Int.reduceLE, Int.reduceGT, Int.reduceGE, Nat.reduceEqDiff, Nat.reduceAdd, Nat.reduceMul, Nat.reduceLeDiff, Nat.reduceSub, Nat.reduceLT, Nat.reduceBEq, ↓reduceIte, reduceCtorEq, ← decide_not, okind, vpre, vpure, intBin, intPre, strBin, strPre, popTo, argSlots, fldV, fldAV, subCells, idxVV, idxAAV, idxSV, sliceV, sliceSV, boundV, szIs, storeOp, storeS, setRowV, eff, extV, buildV, splice, eqSV, fitsL, eqCells, eqCell, minmaxV, capV, binBV, nilCheckV, bytesV, Orc.nothing, V.cells_agg, V.cells_int, V.cells_nils, V.cells_own, V.cells_sl, V.cells_str, V.cells_bool, V.cells_fn, V.cells_ptr, V.cells_rp, V.stays_agg, V.stays_int, V.stays_nils, V.stays_own, V.stays_sl, V.stays_str, V.stays_bool, V.stays_fn, V.stays_ptr, V.stays_rp, encT_cells, encT_stays, T2, T3, T4, T20, hn', s_r_regA])
        refine Runs.regA (by kernel_rfl) ?_
        generalize hSX : mix 8 _ _ = SX
        have X2 : SX 2 = .ptr id2 0 0 := by rw [← hSX]; exact T2
        have X3 : SX 3 = .ptr id3 0 0 := by rw [← hSX]; exact T3
        have X4 : SX 4 = .ptr id4 0 0 := by rw [← hSX]; exact T4
        have X7 : SX 7 = .ptr id7 0 0 := by rw [← hSX]; rfl
        clear hSX
        generalize hσ7 : upd σB id7 ⟨32, 4, [encT t]⟩ = σ7
        have y2 : σ7 id2 = some ⟨23, 1, [v]⟩ := by rw [← hσ7, upd_ne m2]; exact b2
        have y3 : σ7 id3 = some ⟨3, 1, [vI 0]⟩ := by rw [← hσ7, upd_ne m3]; exact b3
        have y4 : σ7 id4 = some ⟨24, 1, [vI 0]⟩ := by rw [← hσ7, upd_ne m4]; exact b4
        have y7 : σ7 id7 = some ⟨32, 4, [encT t]⟩ := by rw [← hσ7, upd_same]
        have hB : Beside σJ σB σJ σ7 := by rw [← hσ7]; exact (Beside.refl hsub).new' f7
        clear hσ7
        have st0 : ∀ (Kt : St → Prop) (S : Nat → V) (σx : Store), S 7 = .ptr id7 0 0 → Kt ⟨putO S (some 24) (.ptr id7 0 3), σx⟩ → T Tryd.prog ⟨some 24, .fldA false 3 1 (.t 7), none⟩ ⟨S, σx⟩ Kt :=
          fun Kt S σx h hk => T.pure rfl rfl trivial (by simp [vpure, VX.ev, fldAV, h]) hk
        have st1 : ∀ (Kt : St → Prop) (S : Nat → V) (σx : Store), S 24 = .ptr id7 0 3 → σx id7 = some ⟨32, 4, [encT t]⟩ → Kt ⟨putO S (some 25) (vI t.at'), σx⟩ → T Tryd.prog ⟨some 25, .load false 1 (.t 24), none⟩ ⟨S, σx⟩ Kt :=
          fun Kt S σx h h2 hk => T.pure rfl rfl trivial (by simp [vpure, VX.ev, loadV, h, h2, encT_cells]) hk
        have fin : ∀ (S : Nat → V) (kk : List It), Runs Tryd.prog 34 (.code .ret :: kk) ⟨S, upd (upd (upd σ7 id2 ⟨23, 1, [.nils]⟩) id3 ⟨3, 1, [vI t.at']⟩) id4 ⟨24, 1, [vI 1]⟩⟩ (fun st2 =>
            ∃ σ2, Beside σJ σB σ2 st2.σ ∧ ∃ k t, L[k]? = some t ∧ t.n < 0 ∧ (∀ u ∈ L.take k, ¬ u.n < 0) ∧ JOf σ K id2 id3 id4 .nils (vI t.at') (vI 1) [] σ2) := fun S kk => Runs.ret ⟨_,
              ((hB.set (o' := ⟨23, 1, [.nils]⟩) J.r2).set (o' := ⟨3, 1, [vI t.at']⟩) (by rw [upd_ne n23.symm]; exact J.r3)).set (o' := ⟨24, 1, [vI 1]⟩) (by rw [upd_ne n34.symm, upd_ne n24.symm]; exact J.r4),
              pre.length, t, hti, hn, hpre, by rw [upd_ne n24, upd_ne n23, upd_same], by rw [upd_ne n34, upd_same], upd_same, ((J.sub.updK f2).updK z3).updK z4, OutV.start⟩
        have tail : ∀ (S : Nat → V) (kk : List It), S 3 = .ptr id3 0 0 → S 4 = .ptr id4 0 0 → S 25 = vI t.at' →
            T Tryd.prog ⟨none, .store 1 (.t 3) (.t 25), none⟩ ⟨S, upd σ7 id2 ⟨23, 1, [.nils]⟩⟩ (fun x => T Tryd.prog ⟨none, .store 1 (.t 4) (.c (.int .i64 1)), none⟩ x (fun x => ([] : List Nat) = [] ∧
              Runs Tryd.prog 34 (.code .ret :: kk) x (fun st2 => ∃ σ2, Beside σJ σB σ2 st2.σ ∧ ∃ k t, L[k]? = some t ∧ t.n < 0 ∧ (∀ u ∈ L.take k, ¬ u.n < 0) ∧ JOf σ K id2 id3 id4 .nils (vI t.at') (vI 1) [] σ2)) ∧ True) :=
          fun S kk h3 h4 h25 => T.cell h3 (by rw [upd_ne n23.symm]; exact y3) rfl h25 rfl rfl
            ⟨T.cell h4 (by rw [upd_ne n34.symm, upd_ne n24.symm]; exact y4) rfl rfl rfl rfl ⟨rfl, fin _ _⟩, trivial⟩
        have hv1 : v.cells.length = 1 := by rw [hvc]; rfl
        refine ⟨st0 _ _ _ X7 ⟨st1 _ _ _ rfl y7 ⟨T.cell (e := 23) X2 y2 hv1 rfl rfl rfl ⟨tail _ _ X3 X4 rfl, trivial⟩, trivial⟩, T.cell (e := 23) X2 y2 hv1 rfl rfl rfl ⟨st1 _ _ _ rfl (by rw [upd_ne m2.symm]; exact y7) ⟨tail _ _ X3 X4 rfl, trivial⟩, trivial⟩, trivial⟩,
          T.cell (e := 23) X2 y2 hv1 rfl rfl rfl ⟨st0 _ _ _ X7 ⟨st1 _ _ _ rfl (by rw [upd_ne m2.symm]; exact y7) ⟨tail _ _ X3 X4 rfl, trivial⟩, trivial⟩, trivial⟩, trivial⟩
      · have hn' : (t.n < 0) = False := by simp [hn]
        (refine Runs.of_step Orc.nothing 300 ?_; simp -implicitDefEqProofs only [BB, Int.reduceEq, Int.reduceNe, Int.reduceLT, Int.reduceLE, Int.reduceGT, Int.reduceGE, Nat.reduceEqDiff, Nat.reduceAdd, Nat.reduceMul, Nat.reduceLeDiff, Nat.reduceSub, Nat.reduceLT, Nat.reduceBEq, ↓reduceIte, reduceCtorEq, ← decide_not, okind, vpre, vpure, intBin, intPre, strBin, strPre, popTo, argSlots, fldV, fldAV, subCells, idxVV, idxAAV, idxSV, sliceV, sliceSV, boundV, szIs, storeOp, storeS, setRowV, eff, extV, buildV, splice, eqSV, fitsL, eqCells, eqCell, minmaxV, capV, binBV, nilCheckV, bytesV, Orc.nothing, V.cells_agg, V.cells_int, V.cells_nils, V.cells_own, V.cells_sl, V.cells_str, V.cells_bool, V.cells_fn, V.cells_ptr, V.cells_rp, V.stays_agg, V.stays_int, V.stays_nils, V.stays_own, V.stays_sl, V.stays_str, V.stays_bool, V.stays_fn, V.stays_ptr, V.stays_rp, encT_cells, encT_stays, encT_agg, hvc, T2, T3, T4, T20, hn', b2, upd_ne m2])
        rw [effR_some]
        intro id28 f28
        have hBs := ((Beside.refl hsub).new' (o := ⟨32, 4, [encT t]⟩) f7).new' (o := ⟨32, 4, [encT t]⟩) f28
        have f28' : (upd σB id7 ⟨32, 4, [encT t]⟩) id28 = none := f28
        have y2 : upd (upd σB id7 ⟨32, 4, [encT t]⟩) id28 ⟨32, 4, [encT t]⟩ id2 = some ⟨23, 1, [v]⟩ := by
          rw [upd_ne (fun e => by rw [← e, upd_ne m2, b2] at f28'; cases f28'), upd_ne m2]; exact b2
        have a28 : upd (upd σB id7 ⟨32, 4, [encT t]⟩) id28 ⟨32, 4, [encT t]⟩ id28 = some ⟨32, 4, [encT t]⟩ := upd_same
        generalize upd (upd σB id7 ⟨32, 4, [encT t]⟩) id28 ⟨32, 4, [encT t]⟩ = σ8 at *
        obtain ⟨idA, hda, hdA⟩ := J.out.dst' hBs.1
        have hb2 : (rows.length + 1) * 33 ≤ 140737488355328 := by omega
        have k2 : K id2 ≠ none := fun h => ((hK0 id2).1 h).1 rfl
        have k3 : K id3 ≠ none := fun h => ((hK0 id3).1 h).2.1 rfl
        have k4 : K id4 ≠ none := fun h => ((hK0 id4).1 h).2.2.1 rfl
        have dne : ∀ (i : Nat) (σx : Store), K i ≠ none → Vc.delO σx idA i = σx i := fun i σx hk => by
          cases idA with
          | none => rfl
          | some a => exact del_ne (fun e => hk (by rw [e]; exact (hdA a rfl).1))
        simp -implicitDefEqProofs only [BB, Int.reduceEq, Int.reduceNe, Int.reduceLT, Int.reduceLE, Int.reduceGT, Int.reduceGE, Nat.reduceEqDiff, Nat.reduceAdd, Nat.reduceMul, Nat.reduceLeDiff, Nat.reduceSub, Nat.reduceLT, Nat.reduceBEq, ↓reduceIte, reduceCtorEq, ← decide_not, okind, vpre, vpure, intBin, intPre, strBin, strPre, popTo, argSlots, fldV, fldAV, subCells, idxVV, idxAAV, idxSV, sliceV, sliceSV, boundV, szIs, storeOp, storeS, setRowV, eff, extV, buildV, splice, eqSV, fitsL, eqCells, eqCell, minmaxV, capV, binBV, nilCheckV, bytesV, V.cells_agg, V.cells_int, V.cells_nils, V.cells_own, V.cells_sl, V.cells_str, V.cells_bool, V.cells_fn, V.cells_ptr, V.cells_rp, V.stays_agg, V.stays_int, V.stays_nils, V.stays_own, V.stays_sl, V.stays_str, V.stays_bool, V.stays_fn, V.stays_ptr, V.stays_rp, encT_cells, encT_stays, hda, srcOne a28, hb2, T2, T3, T4]
        rw [effR_some]
        intro id29 f29
        have f29 : σ8 id29 = none := f29
        have m29 : id2 ≠ id29 := ne_new y2 f29
        have f29' : Vc.delO σ8 idA id29 = none := by
          cases idA with
          | none => exact f29
          | some a => simp only [Vc.delO, del]; split <;> first | rfl | exact f29
        have y2' : upd (Vc.delO σ8 idA) id29 ⟨32, 4, rows ++ [encT t]⟩ id2 = some ⟨23, 1, [v]⟩ := by rw [upd_ne m29, dne _ _ k2]; exact y2
        have hB9 := ((hBs.delO (e := idA) fun i h => (hdA i h).2).new (o := ⟨32, 4, rows ++ [encT t]⟩) f29').set (id := id2) (o := ⟨23, 1, [v]⟩) (o' := ⟨23, 1, [.own id29 0 (rows.length + 1)]⟩) (by rw [upd_ne m29, dne _ _ k2]; exact J.r2)
        simp -implicitDefEqProofs only [BB, Int.reduceEq, Int.reduceNe, Int.reduceLT, Int.reduceLE, Int.reduceGT, Int.reduceGE, Nat.reduceEqDiff, Nat.reduceAdd, Nat.reduceMul, Nat.reduceLeDiff, Nat.reduceSub, Nat.reduceLT, Nat.reduceBEq, ↓reduceIte, reduceCtorEq, ← decide_not, okind, vpre, vpure, intBin, intPre, strBin, strPre, popTo, argSlots, fldV, fldAV, subCells, idxVV, idxAAV, idxSV, sliceV, sliceSV, boundV, szIs, storeOp, storeS, setRowV, eff, extV, buildV, splice, eqSV, fitsL, eqCells, eqCell, minmaxV, capV, binBV, nilCheckV, bytesV, V.cells_agg, V.cells_int, V.cells_nils, V.cells_own, V.cells_sl, V.cells_str, V.cells_bool, V.cells_fn, V.cells_ptr, V.cells_rp, V.stays_agg, V.stays_int, V.stays_nils, V.stays_own, V.stays_sl, V.stays_str, V.stays_bool, V.stays_fn, V.stays_ptr, V.stays_rp, hvc, y2', T2, T3, T4]
        refine ⟨_, hB9, ?_, .own id29 0 (rows.length + 1), ⟨upd_same, ?_, ?_, ?_, ?_⟩⟩
        · intro u hu
          rcases List.mem_append.1 hu with hu | hu
          · exact hpre u hu
          · simp only [List.mem_singleton] at hu; subst hu; exact hn
        · rw [upd_ne n23.symm, upd_ne (ne_new (hBs.1 _ _ J.r3) f29), dne _ _ k3]; exact J.r3
        · rw [upd_ne n24.symm, upd_ne (ne_new (hBs.1 _ _ J.r4) f29), dne _ _ k4]; exact J.r4
        · refine SubStore.updK (fun i o h => ?_) f2
          have h1 := J.sub _ _ h
          rw [upd_ne (ne_new (hBs.1 _ _ h1) f29), dne _ _ (fun hk => by rw [((hK0 i).1 hk).2.2.2] at h; cases h)]
          exact h1
        · rw [List.map_append, hrows]
          refine OutV.new (by simp) (by rw [upd_ne m29.symm, upd_same]; rfl) ?_
          rw [hK0]
          refine ⟨m29.symm, (ne_new (hBs.1 _ _ J.r3) f29).symm, (ne_new (hBs.1 _ _ J.r4) f29).symm, ?_⟩
          cases h : σ id29 with
          | none => rfl
          | some o => rw [hBs.1 _ _ (J.sub _ _ h)] at f29; cases f29
    · rintro σ' ⟨hall, v, J⟩
      rw [List.length_map, List.take_length] at hall J
      have hfr := fromT_ok hall
      rw [hfr] at hw
      have hvc : v.cells = [v] := by rcases J.out with ⟨rfl, _⟩ | ⟨_, rfl, _⟩ <;> rfl
      have hvs : v.stays = true := by rcases J.out with ⟨rfl, _⟩ | ⟨_, rfl, _⟩ <;> rfl
      have o2 := J.r2
      have o3 := J.r3
      have o4 := J.r4
      refine Runs.mix 8 ?_
      (refine Runs.of_step Orc.nothing 300 ?_; simp -implicitDefEqProofs only [BB, Int.reduceEq, Int.reduceNe, Int.reduceLT, Int.reduceLE, Int.reduceGT, Int.reduceGE, Nat.reduceEqDiff, Nat.reduceAdd, Nat.reduceMul, Nat.reduceLeDiff, Nat.reduceSub, Nat.reduceLT, Nat.reduceBEq, ↓reduceIte, reduceCtorEq, ← decide_not, okind, vpre, vpure, intBin, intPre, strBin, strPre, popTo, argSlots, fldV, fldAV, subCells, idxVV, idxAAV, idxSV, sliceV, sliceSV, boundV, szIs, storeOp, storeS, setRowV, eff, extV, buildV, splice, eqSV, fitsL, eqCells, eqCell, minmaxV, capV, binBV, nilCheckV, bytesV, Orc.nothing, V.cells_agg, V.cells_int, V.cells_nils, V.cells_own, V.cells_sl, V.cells_str, V.cells_bool, V.cells_fn, V.cells_ptr, V.cells_rp, V.stays_agg, V.stays_int, V.stays_nils, V.stays_own, V.stays_sl, V.stays_str, V.stays_bool, V.stays_fn, V.stays_ptr, V.stays_rp, S2, S3, S4, S5, S6, o2, o3, o4, hvc, hvs, upd_ne n23, upd_ne n23.symm, upd_ne n24, upd_ne n24.symm, upd_ne n34, upd_ne n34.symm, Ret_cells])
      have hsub' : ∀ a b c : Ob, SubStore σ (upd (upd (upd σ' id2 a) id3 b) id4 c) := fun a b c => ((J.sub.updK f2).updK z3).updK z4
      refine ⟨_, σ, hsub' _ _ _, Wk.tup (vs' := [.sl 4 (L.map encT), vI 0, vI 0]) ⟨?_, Wk.refl (hsub' _ _ _) _, Wk.refl (hsub' _ _ _) _, trivial⟩, ?_, rfl⟩
      · have hout := J.out
        rcases hout with ⟨rfl, h0⟩ | ⟨id, rfl, h1, h2⟩
        · rw [h0]; exact Wk.nils 4
        · have hk := (hK0 id).1 h2
          have := Wk.own (hsub' ⟨23, 1, [.own id 0 (L.map encT).length]⟩ ⟨3, 1, [.int .i64 0]⟩ ⟨24, 1, [.int .i64 0]⟩) (ob := ⟨32, 4, L.map encT⟩) (id := id) (off := 0) (len := (L.map encT).length) (by rw [upd_ne hk.2.2.1, upd_ne hk.2.1, upd_ne hk.1]; exact h1) hk.2.2.2 (by simp)
          rw [List.drop_zero, List.take_length] at this
          exact this
      · rw [hw]; rfl
    · intro id h; cases h
    · rintro pre σ' _ ⟨k, t, h1, h2, h3, J⟩
      rw [fromT_bad h1 h2 h3] at hw
      have hat := hLa t (List.mem_of_getElem? h1)
      refine Runs.ret ?_
      rw [Ret_cells]
      have o2 := J.r2
      have o3 := J.r3
      have o4 := J.r4
      simp only [S2, S3, S4, loadV, o2, o3, o4]
      refine ⟨_, σ, J.sub, Wk.tup (vs' := [.sl 4 [], vI t.at', vI 1]) ⟨Wk.nils 4, Wk.refl J.sub _, Wk.refl J.sub _, trivial⟩, ?_, rfl⟩
      rw [hw]
      show _ = V.tup [.sl 4 [], vI (t.at'.toNat : Int), vI 1]
      rw [Int.toNat_of_nonneg hat]
end Go.Vc
namespace Go.Vc
open Go.Proofs
def encL (l : List Tk) : V := .sl 4 (l.map encT)
theorem idx_encL {σ : Store} {l : List Tk} {i : Nat} (h : i < l.length) : idxAV σ 4 (encL l) (vI i) = some (.rp (encT l[i])) := by
  unfold encL idxAV
  simp [h]
theorem load_encT (σ : Store) (t : Tk) : loadV σ true 4 (.rp (encT t)) = some (encT t) := rfl
theorem len_encL (l : List Tk) : lenV false (encL l) = some (vI l.length) := by simp [encL, lenV]
theorem eq_encT (t u : Tk) : eqSV true [0, 0, 0, 0] (encT t) (encT u) = some (.bool (!decide (t = u))) := by
  have h2 : eqCells [vI t.kind, .int .i32 t.sign, vI t.n, vI t.at'] [vI u.kind, .int .i32 u.sign, vI u.n, vI u.at'] = some (decide (t = u)) := by
    simp only [eqCells, eqCell, if_true, Option.some.injEq, Bool.and_true]
    rw [Bool.eq_iff_iff]
    cases t; cases u
    simp
  unfold encT
  simp only [eqSV]
  rw [if_pos ⟨rfl, rfl⟩, h2]
  rfl
set_option maxRecDepth 100000 in
theorem same_c (a b : List Tk) (ha : a.length ≤ 1000000000) : PFun Tryd.prog 11 [encL a, encL b] (.bool (decide (a = b))) := fun σ => by
  refine Contract.of_runs Tryd.func11 e11 k11 (by simp [c11]) ?_
  refine Runs.mix 6 ?_
  by_cases hl : a.length = b.length
  · have q1 : ((a.length : Int) ≠ (b.length : Int)) = False := by simp; omega
    (refine Runs.of_step Orc.nothing 300 ?_; simp -implicitDefEqProofs only [BB, effR_some, effD_some, Int.reduceEq, Int.reduceNe, Int.reduceLT, Int.reduceLE, Int.reduceGT, Int.reduceGE, Nat.reduceEqDiff, Nat.reduceAdd, Nat.reduceMul, Nat.reduceLeDiff, Nat.reduceSub, Nat.reduceLT, Nat.reduceBEq, ↓reduceIte, reduceCtorEq, ← decide_not, okind, vpre, vpure, intBin, intPre, strBin, strPre, popTo, argSlots, fldV, fldAV, subCells, idxVV, idxAAV, idxSV, sliceV, sliceSV, boundV, szIs, storeOp, storeS, setRowV, eff, extV, buildV, splice, eqSV, fitsL, eqCells, eqCell, minmaxV, capV, binBV, nilCheckV, bytesV, V.cells, V.stays, Orc.nothing, c11, len_encL, q1])
    refine Runs.loop (fun m st => ∃ i : Nat, i ≤ a.length ∧ m = a.length - i ∧ decide (a = b) = decide (a.drop i = b.drop i) ∧ st.σ = σ ∧ st.s 0 = encL a ∧ st.s 1 = encL b ∧ st.s 5 = vI i) a.length ?_ ?_
    · exact ⟨0, by omega, by omega, rfl, rfl, rfl, rfl, rfl⟩
    · rintro m ⟨s', σ'⟩ ⟨i, hi, rfl, hp, hσ, h0, h1, h5⟩
      simp only at hσ h0 h1 h5
      subst hσ
      refine Runs.mix 6 ?_
      by_cases hlt : i < a.length
      · have hlt' : ((i : Int) < (a.length : Int)) = True := by simp; omega
        have hltb : i < b.length := by omega
        have hin : inR .i64 ((i : Int) + 1) := inR_i64 (by omega) (by omega)
        have da := List.drop_eq_getElem_cons hlt
        have db := List.drop_eq_getElem_cons hltb
        have ia := idx_encL (σ := σ') hlt
        have ib := idx_encL (σ := σ') hltb
        rw [da, db] at hp
        by_cases he : a[i] = b[i]
        · have hq : eqSV true [0, 0, 0, 0] (encT a[i]) (encT b[i]) = some (.bool false) := by rw [eq_encT]; simp [he]
          (refine Runs.of_step Orc.nothing 300 ?_; simp -implicitDefEqProofs only [BB, effR_some, effD_some, Int.reduceEq, Int.reduceNe, Int.reduceLT, Int.reduceLE, Int.reduceGT, Int.reduceGE, Nat.reduceEqDiff, Nat.reduceAdd, Nat.reduceMul, Nat.reduceLeDiff, Nat.reduceSub, Nat.reduceLT, Nat.reduceBEq, ↓reduceIte, reduceCtorEq, ← decide_not, okind, vpre, vpure, intBin, intPre, strBin, strPre, popTo, argSlots, fldV, fldAV, subCells, idxVV, idxAAV, idxSV, sliceV, sliceSV, boundV, szIs, storeOp, storeS, setRowV, eff, extV, buildV, splice, fitsL, eqCells, eqCell, minmaxV, capV, binBV, nilCheckV, bytesV, V.cells, V.stays, Orc.nothing, h0, h1, h5, len_encL, hlt', hq, ia, ib, load_encT, hin])
          refine ⟨_, by omega, i + 1, by omega, rfl, ?_, by simp⟩
          rw [hp]; simp only [List.cons.injEq, he, true_and]
        · have hq : eqSV true [0, 0, 0, 0] (encT a[i]) (encT b[i]) = some (.bool true) := by rw [eq_encT]; simp [he]
          (refine Runs.of_step Orc.nothing 300 ?_; simp -implicitDefEqProofs only [BB, effR_some, effD_some, Int.reduceEq, Int.reduceNe, Int.reduceLT, Int.reduceLE, Int.reduceGT, Int.reduceGE, Nat.reduceEqDiff, Nat.reduceAdd, Nat.reduceMul, Nat.reduceLeDiff, Nat.reduceSub, Nat.reduceLT, Nat.reduceBEq, ↓reduceIte, reduceCtorEq, ← decide_not, okind, vpre, vpure, intBin, intPre, strBin, strPre, popTo, argSlots, fldV, fldAV, subCells, idxVV, idxAAV, idxSV, sliceV, sliceSV, boundV, szIs, storeOp, storeS, setRowV, eff, extV, buildV, splice, fitsL, eqCells, eqCell, minmaxV, capV, binBV, nilCheckV, bytesV, V.cells, V.stays, Orc.nothing, h0, h1, h5, len_encL, hlt', hq, ia, ib, load_encT])
          refine RetV.same ?_
          rw [hp]; simp only [List.cons.injEq, he, false_and, decide_false]
      · have hlt' : ((i : Int) < (a.length : Int)) = False := by simp; omega
        (refine Runs.of_step Orc.nothing 300 ?_; simp -implicitDefEqProofs only [BB, effR_some, effD_some, Int.reduceEq, Int.reduceNe, Int.reduceLT, Int.reduceLE, Int.reduceGT, Int.reduceGE, Nat.reduceEqDiff, Nat.reduceAdd, Nat.reduceMul, Nat.reduceLeDiff, Nat.reduceSub, Nat.reduceLT, Nat.reduceBEq, ↓reduceIte, reduceCtorEq, ← decide_not, okind, vpre, vpure, intBin, intPre, strBin, strPre, popTo, argSlots, fldV, fldAV, subCells, idxVV, idxAAV, idxSV, sliceV, sliceSV, boundV, szIs, storeOp, storeS, setRowV, eff, extV, buildV, splice, eqSV, fitsL, eqCells, eqCell, minmaxV, capV, binBV, nilCheckV, bytesV, V.cells, V.stays, Orc.nothing, h0, h1, h5, len_encL, hlt'])
        refine RetV.same ?_
        rw [hp, List.drop_eq_nil_of_le (by omega), List.drop_eq_nil_of_le (by omega)]; rfl
  · have q1 : ((a.length : Int) ≠ (b.length : Int)) = True := by simp; omega
    (refine Runs.of_step Orc.nothing 300 ?_; simp -implicitDefEqProofs only [BB, effR_some, effD_some, Int.reduceEq, Int.reduceNe, Int.reduceLT, Int.reduceLE, Int.reduceGT, Int.reduceGE, Nat.reduceEqDiff, Nat.reduceAdd, Nat.reduceMul, Nat.reduceLeDiff, Nat.reduceSub, Nat.reduceLT, Nat.reduceBEq, ↓reduceIte, reduceCtorEq, ← decide_not, okind, vpre, vpure, intBin, intPre, strBin, strPre, popTo, argSlots, fldV, fldAV, subCells, idxVV, idxAAV, idxSV, sliceV, sliceSV, boundV, szIs, storeOp, storeS, setRowV, eff, extV, buildV, splice, eqSV, fitsL, eqCells, eqCell, minmaxV, capV, binBV, nilCheckV, bytesV, V.cells, V.stays, Orc.nothing, c11, len_encL, q1])
    exact RetV.same (by rw [decide_eq_false (fun e => hl (by rw [e]))])
end Go.Vc
namespace Go.Vc
/-- by the bytes themselves -/
theorem sizeR_4 (s : List UInt8) (i : Nat) : sizeR s i = if byt s i ≤ 127 then 1
    else if (194 ≤ byt s i ∧ byt s i ≤ 223) ∧ (128 ≤ byt s (i + 1) ∧ byt s (i + 1) ≤ 191) then 2
    else if (128 ≤ byt s (i + 1) ∧ byt s (i + 1) ≤ 191) ∧ (128 ≤ byt s (i + 2) ∧ byt s (i + 2) ≤ 191) ∧ (224 ≤ byt s i ∧ byt s i ≤ 239) ∧ (byt s i = 224 → 160 ≤ byt s (i + 1)) ∧ (byt s i = 237 → byt s (i + 1) ≤ 159) then 3
    else if (128 ≤ byt s (i + 1) ∧ byt s (i + 1) ≤ 191) ∧ (128 ≤ byt s (i + 2) ∧ byt s (i + 2) ≤ 191) ∧ (128 ≤ byt s (i + 3) ∧ byt s (i + 3) ≤ 191) ∧ (240 ≤ byt s i ∧ byt s i ≤ 244) ∧ (byt s i = 240 → 144 ≤ byt s (i + 1)) ∧ (byt s i = 244 → byt s (i + 1) ≤ 143) then 4
    else 0 := by
  have h1 : (inB s i 0 127 = true) ↔ byt s i ≤ 127 := by simp [inB]; omega
  have h2 : ((inB s i 194 223 && moreB s (i + 1) 1) = true) ↔ (194 ≤ byt s i ∧ byt s i ≤ 223) ∧ (128 ≤ byt s (i + 1) ∧ byt s (i + 1) ≤ 191) := by simp [inB, moreB]; omega
  have h3 : ((inB s i 224 224 && inB s (i + 1) 160 191 && moreB s (i + 2) 1) || (inB s i 225 236 && moreB s (i + 1) 2) || (inB s i 237 237 && inB s (i + 1) 128 159 && moreB s (i + 2) 1) || (inB s i 238 239 && moreB s (i + 1) 2)) = true ↔
      (128 ≤ byt s (i + 1) ∧ byt s (i + 1) ≤ 191) ∧ (128 ≤ byt s (i + 2) ∧ byt s (i + 2) ≤ 191) ∧ (224 ≤ byt s i ∧ byt s i ≤ 239) ∧ (byt s i = 224 → 160 ≤ byt s (i + 1)) ∧ (byt s i = 237 → byt s (i + 1) ≤ 159) := by
    simp [inB, moreB, Nat.add_assoc]; omega
  have h4 : ((inB s i 240 240 && inB s (i + 1) 144 191 && moreB s (i + 2) 2) || (inB s i 241 243 && moreB s (i + 1) 3) || (inB s i 244 244 && inB s (i + 1) 128 143 && moreB s (i + 2) 2)) = true ↔
      (128 ≤ byt s (i + 1) ∧ byt s (i + 1) ≤ 191) ∧ (128 ≤ byt s (i + 2) ∧ byt s (i + 2) ≤ 191) ∧ (128 ≤ byt s (i + 3) ∧ byt s (i + 3) ≤ 191) ∧ (240 ≤ byt s i ∧ byt s i ≤ 244) ∧ (byt s i = 240 → 144 ≤ byt s (i + 1)) ∧ (byt s i = 244 → byt s (i + 1) ≤ 143) := by
    simp [inB, moreB, Nat.add_assoc]; omega
  unfold sizeR
  simp only [h1, h2, h3, h4]
theorem byt_take (s : List UInt8) (e k : Nat) : byt (s.take e) k = if k < e then byt s k else 256 := by
  unfold byt
  rw [List.getElem?_take]
  by_cases h : k < e <;> simp [h]
def q2 (b0 b1 : Nat) : Prop := (194 ≤ b0 ∧ b0 ≤ 223) ∧ (128 ≤ b1 ∧ b1 ≤ 191)
def q3 (b0 b1 b2 : Nat) : Prop := (128 ≤ b1 ∧ b1 ≤ 191) ∧ (128 ≤ b2 ∧ b2 ≤ 191) ∧ (224 ≤ b0 ∧ b0 ≤ 239) ∧ (b0 = 224 → 160 ≤ b1) ∧ (b0 = 237 → b1 ≤ 159)
def q4 (b0 b1 b2 b3 : Nat) : Prop := (128 ≤ b1 ∧ b1 ≤ 191) ∧ (128 ≤ b2 ∧ b2 ≤ 191) ∧ (128 ≤ b3 ∧ b3 ≤ 191) ∧ (240 ≤ b0 ∧ b0 ≤ 244) ∧ (b0 = 240 → 144 ≤ b1) ∧ (b0 = 244 → b1 ≤ 143)
theorem sizeR_is (s : List UInt8) (i : Nat) : (sizeR s i = 1 ∧ byt s i ≤ 127) ∨ (sizeR s i = 2 ∧ q2 (byt s i) (byt s (i + 1))) ∨ (sizeR s i = 3 ∧ q3 (byt s i) (byt s (i + 1)) (byt s (i + 2))) ∨
    (sizeR s i = 4 ∧ q4 (byt s i) (byt s (i + 1)) (byt s (i + 2)) (byt s (i + 3))) ∨
    (sizeR s i = 0 ∧ ¬ byt s i ≤ 127 ∧ ¬ q2 (byt s i) (byt s (i + 1)) ∧ ¬ q3 (byt s i) (byt s (i + 1)) (byt s (i + 2)) ∧ ¬ q4 (byt s i) (byt s (i + 1)) (byt s (i + 2)) (byt s (i + 3))) := by
  have h := sizeR_4 s i
  unfold q2 q3 q4
  split at h
  · rename_i g; exact .inl ⟨h, g⟩
  · rename_i g1
    split at h
    · rename_i g; exact .inr (.inl ⟨h, g⟩)
    · rename_i g2
      split at h
      · rename_i g; exact .inr (.inr (.inl ⟨h, g⟩))
      · rename_i g3
        split at h
        · rename_i g; exact .inr (.inr (.inr (.inl ⟨h, g⟩)))
        · rename_i g4; exact .inr (.inr (.inr (.inr ⟨h, g1, g2, g3, g4⟩)))
theorem sizeR_take {s : List UInt8} {e i : Nat} (hz : sizeR s i ≠ 0) (h : i + sizeR s i ≤ e) : sizeR (s.take e) i = sizeR s i := by
  have g : ∀ k, i + k < e → byt (s.take e) (i + k) = byt s (i + k) := fun k hk => by rw [byt_take, if_pos hk]
  rcases sizeR_is s i with q | q | q | q | q
  · have g0 := g 0 (by omega)
    rw [q.1]
    exact sizeR_ascii (by rw [Nat.add_zero] at g0; rw [g0]; exact q.2)
  · have g0 := g 0 (by omega)
    have g1 := g 1 (by omega)
    rw [Nat.add_zero] at g0
    have p := sizeR_is (s.take e) i
    simp only [g0, g1, q2, q3, q4] at p q
    omega
  · have g0 := g 0 (by omega)
    have g1 := g 1 (by omega)
    have g2 := g 2 (by omega)
    rw [Nat.add_zero] at g0
    have p := sizeR_is (s.take e) i
    simp only [g0, g1, g2, q2, q3, q4] at p q
    omega
  · have g0 := g 0 (by omega)
    have g1 := g 1 (by omega)
    have g2 := g 2 (by omega)
    have g3 := g 3 (by omega)
    rw [Nat.add_zero] at g0
    have p := sizeR_is (s.take e) i
    simp only [g0, g1, g2, g3, q2, q3, q4] at p q
    omega
  · exact absurd q.1 hz
theorem runeR_take {s : List UInt8} {e i : Nat} (h : i + sizeR s i ≤ e) : runeR (s.take e) i (sizeR s i) = runeR s i (sizeR s i) := by
  have g : ∀ k, i + k < e → byt (s.take e) (i + k) = byt s (i + k) := fun k hk => by rw [byt_take, if_pos hk]
  rcases sizeR_cases s i with q | q | q | q | q
  · rw [q]; rfl
  · rw [q.1] at h ⊢
    exact g 0 (by omega)
  · rw [q.1] at h ⊢
    show 64 * (byt (s.take e) (i + 0) - 192) + byt (s.take e) (i + 1) - 128 = _
    rw [g 0 (by omega), g 1 (by omega)]; rfl
  · rw [q.1] at h ⊢
    show 64 * (64 * (byt (s.take e) (i + 0) - 224) + byt (s.take e) (i + 1) - 128) + byt (s.take e) (i + 2) - 128 = _
    rw [g 0 (by omega), g 1 (by omega), g 2 (by omega)]; rfl
  · rw [q.1] at h ⊢
    show 64 * (64 * (64 * (byt (s.take e) (i + 0) - 240) + byt (s.take e) (i + 1) - 128) + byt (s.take e) (i + 2) - 128) + byt (s.take e) (i + 3) - 128 = _
    rw [g 0 (by omega), g 1 (by omega), g 2 (by omega), g 3 (by omega)]; rfl
theorem badI_ge (s : List UInt8) : ∀ (m i : Nat), s.length - i ≤ m → ∀ e, badI s i = some e → i ≤ e ∧ e < s.length ∧ sizeR s e = 0
  | m, i, hm, e, h => by
    by_cases hi : i < s.length
    · by_cases hz : sizeR s i = 0
      · rw [badI_bad hi hz] at h; cases h; exact ⟨Nat.le_refl _, hi, hz⟩
      · rw [badI_step hi hz] at h
        cases m with
        | zero => omega
        | succ m => have := badI_ge s m _ (by omega) e h; omega
    · rw [badI_end hi] at h; cases h
theorem digs_take {s : List UInt8} {e i : Nat} (hi : i ≤ e) (he : e < s.length) (hb : ¬ (48 ≤ byt s e ∧ byt s e ≤ 57)) : digLen ((s.take e).drop i) = digLen (s.drop i) ∧ digsAt (s.take e) i = digsAt s i ∧ i + digLen (s.drop i) ≤ e := by
  have h1 : (s.take e).drop i = (s.drop i).take (e - i) := by rw [List.drop_take]
  have key : ∀ (l : List UInt8) (d : Nat), d < l.length → ¬ (48 ≤ byt l d ∧ byt l d ≤ 57) → digLen (l.take d) = digLen l ∧ digLen l ≤ d := by
    intro l
    induction l with
    | nil => intro d hd _; simp at hd
    | cons b l ih =>
      intro d hd hb
      cases d with
      | zero =>
        have : ¬ (48 ≤ b.toNat ∧ b.toNat ≤ 57) := by simpa [byt] using hb
        simp [digLen, this]
      | succ d =>
        have := ih d (by simpa using hd) (by simpa [byt] using hb)
        simp only [List.take_succ_cons, digLen]
        split
        · omega
        · omega
  have h2 := key (s.drop i) (e - i) (by simp; omega) (by
    have : byt (s.drop i) (e - i) = byt s e := by unfold byt; rw [List.getElem?_drop, show i + (e - i) = e by omega]
    rw [this]; exact hb)
  refine ⟨by rw [h1]; exact h2.1, ?_, by omega⟩
  unfold digsAt
  rw [h1, h2.1, List.take_take, Nat.min_eq_left h2.2]
end Go.Vc
namespace Go.Vc
theorem lineEnd_spec (s : List UInt8) (i : Nat) (hi : i ≤ s.length) : (∀ k, i ≤ k → k < lineEnd s i → byt s k ≠ 10) ∧ (lineEnd s i < s.length → byt s (lineEnd s i) = 10) := by
  unfold lineEnd
  cases h : (s.drop i).findIdx? (· == 10) with
  | none =>
    refine ⟨fun k h1 h2 e => ?_, fun h => absurd h (Nat.lt_irrefl _)⟩
    rw [List.findIdx?_eq_none_iff] at h
    have h2 : k < s.length := h2
    have := h s[k] (List.mem_drop_iff_getElem.2 ⟨k - i, by omega, by simp [show i + (k - i) = k by omega]⟩)
    rw [← byt_get h2] at e
    have e : s[k] = 10 := UInt8.toNat.inj e
    simp [e] at this
  | some k0 =>
    obtain ⟨h1, h2, h3⟩ := List.findIdx?_eq_some_iff_getElem.1 h
    simp only [List.length_drop] at h1
    simp only [List.getElem_drop, beq_iff_eq] at h2
    refine ⟨fun k g1 g2 e => ?_, fun _ => ?_⟩
    · have g2 : k < i + k0 := g2
      have hk : k < s.length := by omega
      have := h3 (k - i) (by omega)
      simp only [List.getElem_drop, show i + (k - i) = k by omega, beq_iff_eq] at this
      rw [← byt_get hk] at e
      exact this (UInt8.toNat.inj e)
    · show byt s (i + k0) = 10
      rw [← byt_get (by omega), h2]; rfl
theorem decR_of {s : List UInt8} {i : Nat} (hz : sizeR s i ≠ 0) : decR s i = (runeR s i (sizeR s i), sizeR s i) := by simp [decR, hz]
theorem rune_ascii {s : List UInt8} {i : Nat} (h : byt s i ≤ 127) : runeR s i (sizeR s i) = byt s i := by rw [sizeR_ascii h]; rfl
theorem rune_small {s : List UInt8} {i : Nat} (hi : i < s.length) (hz : sizeR s i ≠ 0) (h : runeR s i (sizeR s i) ≤ 127) : runeR s i (sizeR s i) = byt s i := by
  have := decR_ascii hi (by rw [decR_of hz]; exact h)
  rw [decR_of hz] at this
  exact this
/-- digits are gone over -/
theorem allI_digs {s : List UInt8} {e : Nat} (he : e ≤ s.length) : ∀ (m j : Nat), e - j ≤ m → j ≤ e → (∀ k, j ≤ k → k < e → byt s k ≤ 127) → allI s e j = allI s e e
  | m, j, hm, hj, hd => by
    by_cases h : j = e
    · rw [h]
    · have hlt : j < e := by omega
      have hb := hd j (Nat.le_refl _) hlt
      have hs := sizeR_ascii hb
      rw [allI_step (by omega), decR_of (by omega), hs]
      have : nextI s e j (runeR s j 1) = (none, e) := by unfold nextI; rw [if_pos (.inl hlt)]
      simp only [this, Option.toList_none, List.nil_append]
      cases m with
      | zero => omega
      | succ m => exact allI_digs he m (j + 1) (by omega) (by omega) fun k h1 h2 => hd k (by omega) h2
theorem badI_digs {s : List UInt8} {e : Nat} (he : e ≤ s.length) : ∀ (m j : Nat), e - j ≤ m → j ≤ e → (∀ k, j ≤ k → k < e → byt s k ≤ 127) → badI s j = badI s e
  | m, j, hm, hj, hd => by
    by_cases h : j = e
    · rw [h]
    · have hlt : j < e := by omega
      have hs := sizeR_ascii (hd j (Nat.le_refl _) hlt)
      rw [badI_step (by omega) (by omega), hs]
      cases m with
      | zero => omega
      | succ m => exact badI_digs he m (j + 1) (by omega) (by omega) fun k h1 h2 => hd k (by omega) h2
theorem digs_byt {s : List UInt8} {i k : Nat} (h1 : i ≤ k) (h2 : k < i + digLen (s.drop i)) : 48 ≤ byt s k ∧ byt s k ≤ 57 := by
  obtain ⟨b, _, g1, g2, g3⟩ := dig_get (s := s) (j := i) (k - i) (by omega)
  rw [show i + (k - i) = k by omega] at g1
  omega
theorem digs_end {s : List UInt8} {i : Nat} (hi : i ≤ s.length) : i + digLen (s.drop i) ≤ s.length := by
  have := digLen_le (s.drop i); simp at this; omega
theorem fromT_cons0 {t : Tk} {l : List Tk} (h : ¬ t.n < 0) : fromT (t :: l) = (fromT l).cons t := by rw [fromT, if_neg h]
theorem of_lock (s : List UInt8) : ∀ (m i : Nat), s.length - i ≤ m → i ≤ s.length → badI s i = none →
    (∀ skip, skip ≤ i → fromT (allI s skip i) = ofI s false i) ∧
    (∀ skip, i ≤ skip → skip ≤ s.length → (∀ k, i ≤ k → k < skip → byt s k ≠ 10) → (skip < s.length → byt s skip = 10) → fromT (allI s skip i) = ofI s true i) := by
  intro m
  induction m with
  | zero =>
    intro i hm hi _
    have : ¬ i < s.length := by omega
    exact ⟨fun skip _ => by rw [allI_end this, ofI_end this]; rfl, fun skip _ _ _ _ => by rw [allI_end this, ofI_end this]; rfl⟩
  | succ m ih =>
    intro i hm hi hbad
    by_cases hlt : i < s.length
    · have hz : sizeR s i ≠ 0 := fun e => by rw [badI_bad hlt e] at hbad; cases hbad
      have hle := sizeR_le hlt
      have hb2 := hbad
      rw [badI_step hlt hz] at hb2
      have ih1 := ih (i + sizeR s i) (by omega) hle hb2
      have hst := fun skip => allI_step (s := s) (skip := skip) hlt
      have hra := @rune_ascii s i
      have hrs := rune_small hlt hz
      have hsa := @sizeR_ascii s i
      simp only [decR_of hz] at hst
      refine ⟨fun skip hsk => ?_, fun skip h1 h2 h3 h4 => ?_⟩
      · rw [hst skip]
        by_cases hw : byt s i = 32 ∨ byt s i = 9 ∨ byt s i = 10
        · have hc := hra (by omega)
          have : nextI s skip i (runeR s i (sizeR s i)) = (none, skip) := by unfold nextI; rw [if_pos (by omega)]
          simp only [this, Option.toList_none, List.nil_append]
          rw [ih1.1 skip (by omega), ofI_white hlt hz hw, hsa (by omega)]
        · by_cases h35 : byt s i = 35
          · have hc := hra (by omega)
            have : nextI s skip i (runeR s i (sizeR s i)) = (none, lineEnd s i) := by unfold nextI; rw [if_neg (by omega), if_pos (by omega)]
            simp only [this, Option.toList_none, List.nil_append]
            obtain ⟨l1, l2⟩ := lineEnd_spec s i hi
            obtain ⟨l3, l4⟩ := lineEnd_le s i hi
            have h1 := hsa (by omega)
            have hne : lineEnd s i ≠ i := fun e => by rw [e] at l2; have := l2 hlt; omega
            rw [ih1.2 (lineEnd s i) (by omega) l4 (fun k h1 h2 => l1 k (by omega) h2) l2, ofI_hash hlt hz h35, h1]
          · by_cases hd : 48 ≤ byt s i ∧ byt s i ≤ 57
            · have hc := hra (by omega)
              have : nextI s skip i (runeR s i (sizeR s i)) = (some ⟨2, 0, numT (digsAt s i), i⟩, i + digLen (s.drop i)) := by
                unfold nextI; rw [if_neg (by omega), if_neg (by omega), if_pos (by omega)]
              simp only [this, Option.toList_some, List.singleton_append]
              have h1 := hsa (by omega)
              have hdp := digLen_pos hd.1 hd.2
              have hde := digs_end hi
              have hdb : ∀ k, i ≤ k → k < i + digLen (s.drop i) → byt s k ≤ 127 := fun k g1 g2 => by have := digs_byt g1 g2; omega
              rw [h1, allI_digs hde _ (i + 1) (Nat.le_refl _) (by omega) fun k g1 g2 => hdb k (by omega) g2, ofI_num hlt hz hd]
              have hb3 : badI s (i + digLen (s.drop i)) = none := by rw [← badI_digs hde _ i (Nat.le_refl _) (by omega) hdb]; exact hbad
              have ih2 := (ih (i + digLen (s.drop i)) (by omega) hde hb3).1 (i + digLen (s.drop i)) (Nat.le_refl _)
              unfold numT
              cases hnb : numBad (digsAt s i)
              · simp only [Bool.false_eq_true, if_false]
                rw [fromT_cons0 (by simp), ih2]
              · simp only [if_true]
                rw [fromT, if_pos (by simp)]
                simp
            · have hc : ¬ (runeR s i (sizeR s i) ≤ 57 ∧ byt s i ≠ runeR s i (sizeR s i)) := fun ⟨g1, g2⟩ => g2 (hrs (by omega)).symm
              have hnb : ¬ (runeR s i (sizeR s i) = 32 ∨ runeR s i (sizeR s i) = 9 ∨ runeR s i (sizeR s i) = 10 ∨ runeR s i (sizeR s i) = 35 ∨ (48 ≤ runeR s i (sizeR s i) ∧ runeR s i (sizeR s i) ≤ 57)) := by
                intro g
                have := hrs (by omega)
                omega
              have : nextI s skip i (runeR s i (sizeR s i)) = (some ⟨1, runeR s i (sizeR s i), 0, i⟩, skip) := by
                unfold nextI; rw [if_neg (by omega), if_neg (by omega), if_neg (by omega)]
              simp only [this, Option.toList_some, List.singleton_append]
              rw [fromT_cons0 (by simp), ih1.1 skip (by omega), ofI_sign hlt hz (by omega)]
      · rw [hst skip]
        by_cases hsk : i < skip
        · have : nextI s skip i (runeR s i (sizeR s i)) = (none, skip) := by unfold nextI; rw [if_pos (.inl hsk)]
          simp only [this, Option.toList_none, List.nil_append]
          have hskip : i + sizeR s i ≤ skip := by
            rcases Nat.lt_or_ge skip (i + sizeR s i) with hc | hc
            · exfalso
              have h10 := h4 (by omega)
              obtain ⟨d, rfl⟩ : ∃ d, skip = i + d := ⟨skip - i, by omega⟩
              have hd : d = 1 ∨ d = 2 ∨ d = 3 := by rcases sizeR_cases s i with q | q | q | q | q <;> omega
              rcases sizeR_cases s i with q | q | q | q | q <;> rcases hd with rfl | rfl | rfl <;> omega
            · exact hc
          rw [ih1.2 skip hskip h2 (fun k g1 g2 => h3 k (by omega) g2) h4, ofI_com hlt hz, decide_eq_true (h3 i (Nat.le_refl _) hsk)]
        · obtain rfl : skip = i := by omega
          have h10 := h4 hlt
          have hc := hra (by omega)
          have : nextI s skip skip (runeR s skip (sizeR s skip)) = (none, skip) := by unfold nextI; rw [if_pos (by omega)]
          simp only [this, Option.toList_none, List.nil_append]
          rw [ih1.1 skip (by omega), ofI_com hlt hz, decide_eq_false (by omega)]
    · exact ⟨fun skip _ => by rw [allI_end hlt, ofI_end hlt]; rfl, fun skip _ _ _ _ => by rw [allI_end hlt, ofI_end hlt]; rfl⟩
/-- ahead of the first place where no character stands -/
theorem of_cut (s : List UInt8) (e : Nat) (he : e < s.length) (hze : sizeR s e = 0) : ∀ (m i : Nat) (c : Bool), e - i ≤ m → i ≤ e → badI s i = some e →
    badI (s.take e) i = none ∧ ofI s c i = match ofI (s.take e) c i with
      | .ok _ => .bad e
      | .bad p => .bad p := by
  have hlen : (s.take e).length = e := by simp; omega
  intro m
  induction m with
  | zero =>
    intro i c hm hi hb
    obtain rfl : i = e := by omega
    have h1 : ¬ i < (s.take i).length := by omega
    rw [badI_end h1, ofI_end h1, ofI_bad he hze]
    exact ⟨rfl, rfl⟩
  | succ m ih =>
    intro i c hm hi hb
    by_cases hie : i = e
    · subst hie
      have h1 : ¬ i < (s.take i).length := by omega
      rw [badI_end h1, ofI_end h1, ofI_bad he hze]
      exact ⟨rfl, rfl⟩
    · have hlt : i < s.length := by omega
      have hlt' : i < (s.take e).length := by omega
      have hz : sizeR s i ≠ 0 := fun g => by rw [badI_bad hlt g] at hb; cases hb; exact hie rfl
      have hb2 := hb
      rw [badI_step hlt hz] at hb2
      have hge := (badI_ge s _ _ (Nat.le_refl _) e hb2).1
      have hsz := sizeR_take hz hge
      have hru := runeR_take hge
      have hby : byt (s.take e) i = byt s i := by rw [byt_take, if_pos (by omega)]
      have hz' : sizeR (s.take e) i ≠ 0 := by omega
      have ihc := fun c => ih (i + sizeR s i) c (by omega) hge hb2
      have hsa := @sizeR_ascii s i
      refine ⟨by rw [badI_step hlt' hz', hsz]; exact (ihc false).1, ?_⟩
      cases c
      · by_cases hw : byt s i = 32 ∨ byt s i = 9 ∨ byt s i = 10
        · rw [ofI_white hlt hz hw, ofI_white hlt' hz' (by omega), ← hsa (by omega)]
          exact (ihc false).2
        · by_cases h35 : byt s i = 35
          · rw [ofI_hash hlt hz h35, ofI_hash hlt' hz' (by omega), ← hsa (by omega)]
            exact (ihc true).2
          · by_cases hd : 48 ≤ byt s i ∧ byt s i ≤ 57
            · have heb : ¬ (48 ≤ byt s e ∧ byt s e ≤ 57) := fun g => by have := sizeR_ascii (s := s) (i := e) (by omega); omega
              obtain ⟨d1, d2, d3⟩ := digs_take hi he heb
              have hdp := digLen_pos hd.1 hd.2
              rw [ofI_num hlt hz hd, ofI_num hlt' hz' (by omega), d1, d2]
              split
              · rfl
              · have hb3 : badI s (i + digLen (s.drop i)) = some e := by
                  rw [← badI_digs (e := i + digLen (s.drop i)) (by omega) _ i (Nat.le_refl _) (by omega) fun k g1 g2 => by have := digs_byt g1 g2; omega]
                  exact hb
                have := (ih (i + digLen (s.drop i)) false (by omega) d3 hb3).2
                rw [this]
                cases ofI (s.take e) false (i + digLen (s.drop i)) <;> rfl
            · rw [ofI_sign hlt hz (by omega), ofI_sign hlt' hz' (by omega), hsz, hru, (ihc false).2]
              cases ofI (s.take e) false (i + sizeR s i) <;> rfl
      · rw [ofI_com hlt hz, ofI_com hlt' hz', hsz, hby]
        exact (ihc _).2
theorem ofC_eq (s : List UInt8) : ofC s = ofI s false 0 := by
  unfold ofC
  cases h : badI s 0 with
  | none => exact (of_lock s s.length 0 (by omega) (by omega) h).1 0 (Nat.le_refl _)
  | some e =>
    obtain ⟨_, h2, h3⟩ := badI_ge s s.length 0 (by omega) e h
    obtain ⟨g1, g2⟩ := of_cut s e h2 h3 e 0 false (by omega) (by omega) h
    have := (of_lock (s.take e) (s.take e).length 0 (by omega) (by omega) g1).1 0 (Nat.le_refl _)
    rw [g2]
    simp only [this]
    cases ofI (s.take e) false 0 <;> rfl
end Go.Vc
namespace Go.Vc
open Go.Proofs
/-- the answer's tokens, by so many steps -/
def ofF : Nat → List UInt8 → Bool → Nat → Res
  | 0, _, _, _ => .ok []
  | f + 1, s, c, i =>
    if i < s.length then
      if sizeR s i = 0 then .bad i
      else if c then ofF f s (decide (byt s i ≠ 10)) (i + sizeR s i)
      else if byt s i = 35 then ofF f s true (i + 1)
      else if byt s i = 32 ∨ byt s i = 9 ∨ byt s i = 10 then ofF f s false (i + 1)
      else if 48 ≤ byt s i ∧ byt s i ≤ 57 then
        if numBad (digsAt s i) then .bad i
        else (ofF f s false (i + digLen (s.drop i))).cons ⟨2, 0, numR (digsAt s i), i⟩
      else (ofF f s false (i + sizeR s i)).cons ⟨1, runeR s i (sizeR s i), 0, i⟩
    else .ok []
theorem ofF_eq (s : List UInt8) : ∀ (f : Nat) (c : Bool) (i : Nat), s.length - i ≤ f → ofF f s c i = ofI s c i
  | 0, c, i, h => by rw [ofI_end (by omega)]; rfl
  | f + 1, c, i, h => by
    unfold ofF
    by_cases hlt : i < s.length
    · rw [if_pos hlt]
      by_cases hz : sizeR s i = 0
      · rw [if_pos hz, ofI_bad hlt hz]
      · rw [if_neg hz]
        cases c
        · rw [if_neg (by simp)]
          by_cases h35 : byt s i = 35
          · rw [if_pos h35, ofI_hash hlt hz h35, ofF_eq s f true (i + 1) (by omega)]
          · rw [if_neg h35]
            by_cases hw : byt s i = 32 ∨ byt s i = 9 ∨ byt s i = 10
            · rw [if_pos hw, ofI_white hlt hz hw, ofF_eq s f false (i + 1) (by omega)]
            · rw [if_neg hw]
              by_cases hd : 48 ≤ byt s i ∧ byt s i ≤ 57
              · have hdp := digLen_pos hd.1 hd.2
                rw [if_pos hd, ofI_num hlt hz hd, ofF_eq s f false _ (by omega)]
              · rw [if_neg hd, ofI_sign hlt hz (by omega), ofF_eq s f false _ (by omega)]
        · rw [if_pos rfl, ofI_com hlt hz, ofF_eq s f _ _ (by omega)]
    · rw [if_neg hlt, ofI_end hlt]
theorem of_lex (s : List UInt8) (hs : s.length ≤ 1000000) : PFun Tryd.prog 7 [.str s] (resT (ofI s false 0)) := by rw [← ofC_eq]; exact of_c s hs
theorem sign_c (c at' : Int) : PFun Tryd.prog 15 [.int .i32 c, vI at'] (encT ⟨1, c, 0, at'⟩) := fun σ => by
  refine Contract.of_runs Tryd.func15 e15 k15 (by simp [c15]) ?_
  refine Runs.mix 5 ?_
  (refine Runs.of_step Orc.nothing 300 ?_; simp -implicitDefEqProofs only [BB, Int.reduceEq, Int.reduceNe, Int.reduceLT, Int.reduceLE, Int.reduceGT, Int.reduceGE, Nat.reduceEqDiff, Nat.reduceAdd, Nat.reduceMul, Nat.reduceLeDiff, Nat.reduceSub, Nat.reduceLT, Nat.reduceBEq, ↓reduceIte, reduceCtorEq, ← decide_not, okind, vpre, vpure, intBin, intPre, strBin, strPre, popTo, argSlots, fldV, fldAV, subCells, idxVV, idxAAV, idxSV, sliceV, sliceSV, boundV, szIs, storeOp, storeS, setRowV, eff, extV, buildV, splice, eqSV, fitsL, eqCells, eqCell, minmaxV, capV, binBV, nilCheckV, bytesV, V.cells, V.stays, Orc.nothing, c15])
  refine effR_new fun id4 σ1 s1 a4 f4 => ?_
  simp -implicitDefEqProofs only [BB, Int.reduceEq, Int.reduceNe, Int.reduceLT, Int.reduceLE, Int.reduceGT, Int.reduceGE, Nat.reduceEqDiff, Nat.reduceAdd, Nat.reduceMul, Nat.reduceLeDiff, Nat.reduceSub, Nat.reduceLT, Nat.reduceBEq, ↓reduceIte, reduceCtorEq, ← decide_not, okind, vpre, vpure, intBin, intPre, strBin, strPre, popTo, argSlots, fldV, fldAV, subCells, idxVV, idxAAV, idxSV, sliceV, sliceSV, boundV, szIs, storeOp, storeS, setRowV, eff, extV, buildV, splice, eqSV, fitsL, eqCells, eqCell, minmaxV, capV, binBV, nilCheckV, bytesV, V.cells, V.stays, a4]
  exact RetV.pure (s1.updK f4) rfl
theorem num_c (n at' : Int) : PFun Tryd.prog 16 [vI n, vI at'] (encT ⟨2, 0, n, at'⟩) := fun σ => by
  refine Contract.of_runs Tryd.func16 e16 k16 (by simp [c16]) ?_
  refine Runs.mix 5 ?_
  (refine Runs.of_step Orc.nothing 300 ?_; simp -implicitDefEqProofs only [BB, Int.reduceEq, Int.reduceNe, Int.reduceLT, Int.reduceLE, Int.reduceGT, Int.reduceGE, Nat.reduceEqDiff, Nat.reduceAdd, Nat.reduceMul, Nat.reduceLeDiff, Nat.reduceSub, Nat.reduceLT, Nat.reduceBEq, ↓reduceIte, reduceCtorEq, ← decide_not, okind, vpre, vpure, intBin, intPre, strBin, strPre, popTo, argSlots, fldV, fldAV, subCells, idxVV, idxAAV, idxSV, sliceV, sliceSV, boundV, szIs, storeOp, storeS, setRowV, eff, extV, buildV, splice, eqSV, fitsL, eqCells, eqCell, minmaxV, capV, binBV, nilCheckV, bytesV, V.cells, V.stays, Orc.nothing, c16])
  refine effR_new fun id4 σ1 s1 a4 f4 => ?_
  simp -implicitDefEqProofs only [BB, Int.reduceEq, Int.reduceNe, Int.reduceLT, Int.reduceLE, Int.reduceGT, Int.reduceGE, Nat.reduceEqDiff, Nat.reduceAdd, Nat.reduceMul, Nat.reduceLeDiff, Nat.reduceSub, Nat.reduceLT, Nat.reduceBEq, ↓reduceIte, reduceCtorEq, ← decide_not, okind, vpre, vpure, intBin, intPre, strBin, strPre, popTo, argSlots, fldV, fldAV, subCells, idxVV, idxAAV, idxSV, sliceV, sliceSV, boundV, szIs, storeOp, storeS, setRowV, eff, extV, buildV, splice, eqSV, fitsL, eqCells, eqCell, minmaxV, capV, binBV, nilCheckV, bytesV, V.cells, V.stays, a4]
  exact RetV.pure (s1.updK f4) rfl
def readB (s : List UInt8) (want : List Tk) : Bool := match ofI s false 0 with
  | .ok l => decide (l = want)
  | .bad _ => false
def wrongB (s : List UInt8) (p : Int) : Bool := match ofI s false 0 with
  | .ok _ => false
  | .bad q => decide ((q : Int) = p)
theorem len_sl0 : lenV false (.sl 4 []) = some (vI 0) := rfl
theorem ofI_len (s : List UInt8) : ∀ (m i : Nat) (c : Bool), s.length - i ≤ m → ∀ l, ofI s c i = .ok l → l.length ≤ s.length - i := by
  intro m
  induction m with
  | zero => intro i c hm l h; rw [ofI_end (by omega)] at h; cases h; simp
  | succ m ih =>
    intro i c hm l h
    by_cases hlt : i < s.length
    · by_cases hz : sizeR s i = 0
      · rw [ofI_bad hlt hz] at h; cases h
      · have cons : ∀ (r : Res) (t : Tk), r.cons t = .ok l → ∃ l', r = .ok l' ∧ l = t :: l' := fun r t hr => by
          cases r with
          | ok l' => exact ⟨l', rfl, by simpa [Res.cons] using hr.symm⟩
          | bad => cases hr
        cases c
        · by_cases h35 : byt s i = 35
          · rw [ofI_hash hlt hz h35] at h
            have := ih _ _ (by omega) l h; omega
          · by_cases hw : byt s i = 32 ∨ byt s i = 9 ∨ byt s i = 10
            · rw [ofI_white hlt hz hw] at h
              have := ih _ _ (by omega) l h; omega
            · by_cases hd : 48 ≤ byt s i ∧ byt s i ≤ 57
              · have hdp := digLen_pos hd.1 hd.2
                rw [ofI_num hlt hz hd] at h
                split at h
                · cases h
                · obtain ⟨l', h1, rfl⟩ := cons _ _ h
                  have := ih _ _ (by omega) l' h1; simp; omega
              · rw [ofI_sign hlt hz (by omega)] at h
                obtain ⟨l', h1, rfl⟩ := cons _ _ h
                have := ih _ _ (by omega) l' h1; simp; omega
        · rw [ofI_com hlt hz] at h
          have := ih _ _ (by omega) l h; omega
    · rw [ofI_end hlt] at h; cases h; simp
theorem read_c (s : List UInt8) (want : List Tk) (hs : s.length ≤ 1000000) : PFun Tryd.prog 14 [.str s, encL want] (.bool (readB s want)) := fun σ => by
  refine Contract.of_runs Tryd.func14 e14 k14 (by simp [c14]) ?_
  refine Runs.mix 8 ?_
  (refine Runs.of_step Orc.nothing 300 ?_; simp -implicitDefEqProofs only [BB, effR_some, effD_some, Int.reduceEq, Int.reduceNe, Int.reduceLT, Int.reduceLE, Int.reduceGT, Int.reduceGE, Nat.reduceEqDiff, Nat.reduceAdd, Nat.reduceMul, Nat.reduceLeDiff, Nat.reduceSub, Nat.reduceLT, Nat.reduceBEq, ↓reduceIte, reduceCtorEq, ← decide_not, okind, vpre, vpure, intBin, intPre, strBin, strPre, popTo, argSlots, fldV, fldAV, subCells, idxVV, idxAAV, idxSV, sliceV, sliceSV, boundV, szIs, storeOp, storeS, setRowV, eff, extV, buildV, splice, eqSV, fitsL, eqCells, eqCell, minmaxV, capV, binBV, nilCheckV, bytesV, V.cells, V.stays, Orc.nothing, c14])
  refine Runs.pcall rfl rfl rfl (of_lex s hs _) ?_
  unfold readB
  have hl := ofI_len s _ 0 false (Nat.le_refl _)
  cases h : ofI s false 0 with
  | ok l =>
    have hl := hl l h
    have hR : resT (.ok l) = .tup [encL l, vI 0, vI 0] := rfl
    rw [hR]
    (refine Runs.of_step Orc.nothing 300 ?_; simp -implicitDefEqProofs only [BB, effR_some, effD_some, Int.reduceEq, Int.reduceNe, Int.reduceLT, Int.reduceLE, Int.reduceGT, Int.reduceGE, Nat.reduceEqDiff, Nat.reduceAdd, Nat.reduceMul, Nat.reduceLeDiff, Nat.reduceSub, Nat.reduceLT, Nat.reduceBEq, ↓reduceIte, reduceCtorEq, ← decide_not, okind, vpre, vpure, intBin, intPre, strBin, strPre, popTo, argSlots, fldV, fldAV, subCells, idxVV, idxAAV, idxSV, sliceV, sliceSV, boundV, szIs, storeOp, storeS, setRowV, eff, extV, buildV, splice, eqSV, fitsL, eqCells, eqCell, minmaxV, capV, binBV, nilCheckV, bytesV, V.cells, V.stays, Orc.nothing])
    refine Runs.pcall rfl rfl rfl (same_c l want (by omega) _) ?_
    (refine Runs.of_step Orc.nothing 300 ?_; simp -implicitDefEqProofs only [BB, effR_some, effD_some, Int.reduceEq, Int.reduceNe, Int.reduceLT, Int.reduceLE, Int.reduceGT, Int.reduceGE, Nat.reduceEqDiff, Nat.reduceAdd, Nat.reduceMul, Nat.reduceLeDiff, Nat.reduceSub, Nat.reduceLT, Nat.reduceBEq, ↓reduceIte, reduceCtorEq, ← decide_not, okind, vpre, vpure, intBin, intPre, strBin, strPre, popTo, argSlots, fldV, fldAV, subCells, idxVV, idxAAV, idxSV, sliceV, sliceSV, boundV, szIs, storeOp, storeS, setRowV, eff, extV, buildV, splice, eqSV, fitsL, eqCells, eqCell, minmaxV, capV, binBV, nilCheckV, bytesV, V.cells, V.stays, Orc.nothing])
    exact RetV.same rfl
  | bad p =>
    have hR : resT (.bad p) = .tup [.sl 4 [], vI p, vI 1] := rfl
    rw [hR]
    (refine Runs.of_step Orc.nothing 300 ?_; simp -implicitDefEqProofs only [BB, effR_some, effD_some, Int.reduceEq, Int.reduceNe, Int.reduceLT, Int.reduceLE, Int.reduceGT, Int.reduceGE, Nat.reduceEqDiff, Nat.reduceAdd, Nat.reduceMul, Nat.reduceLeDiff, Nat.reduceSub, Nat.reduceLT, Nat.reduceBEq, ↓reduceIte, reduceCtorEq, ← decide_not, okind, vpre, vpure, intBin, intPre, strBin, strPre, popTo, argSlots, fldV, fldAV, subCells, idxVV, idxAAV, idxSV, sliceV, sliceSV, boundV, szIs, storeOp, storeS, setRowV, eff, extV, buildV, splice, eqSV, fitsL, eqCells, eqCell, minmaxV, capV, binBV, nilCheckV, bytesV, V.cells, V.stays, Orc.nothing])
    exact RetV.same rfl
theorem wrong_c (s : List UInt8) (p : Int) (hs : s.length ≤ 1000000) : PFun Tryd.prog 17 [.str s, vI p] (.bool (wrongB s p)) := fun σ => by
  refine Contract.of_runs Tryd.func17 e17 k17 (by simp [c17]) ?_
  refine Runs.mix 8 ?_
  (refine Runs.of_step Orc.nothing 300 ?_; simp -implicitDefEqProofs only [BB, effR_some, effD_some, Int.reduceEq, Int.reduceNe, Int.reduceLT, Int.reduceLE, Int.reduceGT, Int.reduceGE, Nat.reduceEqDiff, Nat.reduceAdd, Nat.reduceMul, Nat.reduceLeDiff, Nat.reduceSub, Nat.reduceLT, Nat.reduceBEq, ↓reduceIte, reduceCtorEq, ← decide_not, okind, vpre, vpure, intBin, intPre, strBin, strPre, popTo, argSlots, fldV, fldAV, subCells, idxVV, idxAAV, idxSV, sliceV, sliceSV, boundV, szIs, storeOp, storeS, setRowV, eff, extV, buildV, splice, eqSV, fitsL, eqCells, eqCell, minmaxV, capV, binBV, nilCheckV, bytesV, V.cells, V.stays, Orc.nothing, c17])
  refine Runs.pcall rfl rfl rfl (of_lex s hs _) ?_
  unfold wrongB
  cases h : ofI s false 0 with
  | ok l =>
    have hR : resT (.ok l) = .tup [encL l, vI 0, vI 0] := rfl
    rw [hR]
    (refine Runs.of_step Orc.nothing 300 ?_; simp -implicitDefEqProofs only [BB, effR_some, effD_some, Int.reduceEq, Int.reduceNe, Int.reduceLT, Int.reduceLE, Int.reduceGT, Int.reduceGE, Nat.reduceEqDiff, Nat.reduceAdd, Nat.reduceMul, Nat.reduceLeDiff, Nat.reduceSub, Nat.reduceLT, Nat.reduceBEq, ↓reduceIte, reduceCtorEq, ← decide_not, okind, vpre, vpure, intBin, intPre, strBin, strPre, popTo, argSlots, fldV, fldAV, subCells, idxVV, idxAAV, idxSV, sliceV, sliceSV, boundV, szIs, storeOp, storeS, setRowV, eff, extV, buildV, splice, eqSV, fitsL, eqCells, eqCell, minmaxV, capV, binBV, nilCheckV, bytesV, V.cells, V.stays, Orc.nothing, len_encL])
    (repeat' (first | with_reducible refine And.intro (fun h => ?_) (fun h => ?_))) <;> exact RetV.same rfl
  | bad q =>
    have hR : resT (.bad q) = .tup [.sl 4 [], vI q, vI 1] := rfl
    rw [hR]
    (refine Runs.of_step Orc.nothing 300 ?_; simp -implicitDefEqProofs only [BB, effR_some, effD_some, Int.reduceEq, Int.reduceNe, Int.reduceLT, Int.reduceLE, Int.reduceGT, Int.reduceGE, Nat.reduceEqDiff, Nat.reduceAdd, Nat.reduceMul, Nat.reduceLeDiff, Nat.reduceSub, Nat.reduceLT, Nat.reduceBEq, ↓reduceIte, reduceCtorEq, ← decide_not, okind, vpre, vpure, intBin, intPre, strBin, strPre, popTo, argSlots, fldV, fldAV, subCells, idxVV, idxAAV, idxSV, sliceV, sliceSV, boundV, szIs, storeOp, storeS, setRowV, eff, extV, buildV, splice, eqSV, fitsL, eqCells, eqCell, minmaxV, capV, binBV, nilCheckV, bytesV, V.cells, V.stays, Orc.nothing, len_sl0])
    refine And.intro (fun _ => And.intro (fun h => ?_) (fun h => ?_)) (fun h => absurd rfl h)
    · exact RetV.same (by rw [decide_eq_true h])
    · exact RetV.same (by rw [decide_eq_false h])
def g15 : List V → Option V
  | [.int .i32 c, .int .i64 i] => some (encT ⟨1, c, 0, i⟩)
  | _ => none
def g16 : List V → Option V
  | [.int .i64 n, .int .i64 i] => some (encT ⟨2, 0, n, i⟩)
  | _ => none
def OE14 : Orc Tryd.prog := (Orc.nothing.one 15 g15 fun args v h => by
  unfold g15 at h
  split at h
  · simp only [Option.some.injEq] at h; subst h; exact sign_c _ _
  · cases h).one 16 g16 fun args v h => by
  unfold g16 at h
  split at h
  · simp only [Option.some.injEq] at h; subst h; exact num_c _ _
  · cases h
theorem OE14_15 (c i : Int) (σ : Store) : OE14.get 15 [.int .i32 c, .int .i64 i] σ = some (encT ⟨1, c, 0, i⟩) := rfl
theorem OE14_16 (n i : Int) (σ : Store) : OE14.get 16 [.int .i64 n, .int .i64 i] σ = some (encT ⟨2, 0, n, i⟩) := rfl
theorem OE14_14 (a : List V) (σ : Store) : OE14.get 14 a σ = none := rfl
theorem OE14_17 (a : List V) (σ : Store) : OE14.get 17 a σ = none := rfl
theorem OE14_9 (a : List V) (σ : Store) : OE14.get 9 a σ = none := rfl
/-- a read whose tokens stand in memory of the call's own -/
theorem read_own {s : List UInt8} {want : List Tk} (hs : s.length ≤ 1000000) (hr : readB s want = true) {σ : Store} {id : Nat} {n : Nat} (hn : n = want.length) (ho : σ id = some ⟨32, 4, want.map encT⟩) :
    Contract Tryd.prog 14 [.str s, .own id 0 n] σ fun r σ' => r = .bool true ∧ σ' = σ := by
  subst hn
  refine PFun.borrow (args' := [.str s, encL want]) ⟨Wk.refl (nost_sub σ) _, ?_, trivial⟩ (hr ▸ read_c s want hs) rfl
  have := Wk.own (nost_sub σ) ho (σ' := nost) rfl (off := 0) (len := want.length) (by simp)
  rw [List.drop_zero, List.take_of_length_le (by simp)] at this
  exact this
theorem read_nil {s : List UInt8} (hs : s.length ≤ 1000000) (hr : readB s [] = true) {σ : Store} : Contract Tryd.prog 14 [.str s, .nils] σ fun r σ' => r = .bool true ∧ σ' = σ :=
  PFun.borrow (args' := [.str s, encL []]) ⟨Wk.refl (nost_sub σ) _, Wk.nils 4, trivial⟩ (hr ▸ read_c s [] hs) rfl
theorem readB_of {s : List UInt8} {want : List Tk} (h : ofF s.length s false 0 = .ok want) : readB s want = true := by
  unfold readB; rw [← ofF_eq s s.length false 0 (by omega), h]; simp
theorem wrongB_of {s : List UInt8} {p : Nat} (h : ofF s.length s false 0 = .bad p) : wrongB s p = true := by
  unfold wrongB; rw [← ofF_eq s s.length false 0 (by omega), h]; simp
theorem bad_2 : badI [195, 169] 0 = none := by
  have h : sizeR [195, 169] 0 = 2 := by decide
  rw [badI_step (by decide) (by omega), h, badI_end (by decide)]
set_option maxRecDepth 100000 in
theorem awake6_c : PFun Tryd.prog 6 [] (.bool true) := fun σ => by
  refine Contract.of_runs Tryd.func6 e6 k6 (by simp [c6]) ?_
  refine Runs.mix 8 ?_
  (refine Runs.of_step OE14 300 ?_; simp -implicitDefEqProofs only [BB, Int.reduceEq, Int.reduceNe, Int.reduceLT, Int.reduceLE, Int.reduceGT, Int.reduceGE, Nat.reduceEqDiff, Nat.reduceAdd, Nat.reduceMul, Nat.reduceLeDiff, Nat.reduceSub, Nat.reduceLT, Nat.reduceBEq, ↓reduceIte, reduceCtorEq, ← decide_not, okind, vpre, vpure, intBin, intPre, strBin, strPre, popTo, argSlots, fldV, fldAV, subCells, idxVV, idxAAV, idxSV, sliceV, sliceSV, boundV, szIs, storeOp, storeS, setRowV, eff, extV, buildV, splice, eqSV, fitsL, eqCells, eqCell, minmaxV, capV, binBV, nilCheckV, bytesV, V.cells, V.stays, c6, OE14_9])
  refine Runs.pcall rfl rfl rfl (text_c [195, 169] (by simp) _) ?_
  have ht : textV (badI [195, 169] 0) = .tup [vI 0, .bool true] := by rw [bad_2]; rfl
  rw [ht]
  (refine Runs.of_step OE14 300 ?_; simp -implicitDefEqProofs only [BB, Int.reduceEq, Int.reduceNe, Int.reduceLT, Int.reduceLE, Int.reduceGT, Int.reduceGE, Nat.reduceEqDiff, Nat.reduceAdd, Nat.reduceMul, Nat.reduceLeDiff, Nat.reduceSub, Nat.reduceLT, Nat.reduceBEq, ↓reduceIte, reduceCtorEq, ← decide_not, okind, vpre, vpure, intBin, intPre, strBin, strPre, popTo, argSlots, fldV, fldAV, subCells, idxVV, idxAAV, idxSV, sliceV, sliceSV, boundV, szIs, storeOp, storeS, setRowV, eff, extV, buildV, splice, eqSV, fitsL, eqCells, eqCell, minmaxV, capV, binBV, nilCheckV, bytesV, OE14_15, OE14_16, V.cells_agg, V.cells_int, V.cells_nils, V.cells_own, V.cells_sl, V.cells_str, V.cells_bool, V.cells_fn, V.cells_ptr, V.cells_rp, V.stays_agg, V.stays_int, V.stays_nils, V.stays_own, V.stays_sl, V.stays_str, V.stays_bool, V.stays_fn, V.stays_ptr, V.stays_rp, encT_cells, encT_stays])
  refine effR_new fun id1 σ1 s1 a1 f1 => ?_
  simp -implicitDefEqProofs only [BB, Int.reduceEq, Int.reduceNe, Int.reduceLT, Int.reduceLE, Int.reduceGT, Int.reduceGE, Nat.reduceEqDiff, Nat.reduceAdd, Nat.reduceMul, Nat.reduceLeDiff, Nat.reduceSub, Nat.reduceLT, Nat.reduceBEq, ↓reduceIte, reduceCtorEq, ← decide_not, okind, vpre, vpure, intBin, intPre, strBin, strPre, popTo, argSlots, fldV, fldAV, subCells, idxVV, idxAAV, idxSV, sliceV, sliceSV, boundV, szIs, storeOp, storeS, setRowV, eff, extV, buildV, splice, eqSV, fitsL, eqCells, eqCell, minmaxV, capV, binBV, nilCheckV, bytesV, V.cells, V.stays, OE14_14]
  refine Runs.pcall rfl rfl rfl (read_own (want := [⟨1, 91, 0, 0⟩, ⟨1, 109, 0, 1⟩, ⟨2, 0, 12, 2⟩, ⟨1, 93, 0, 4⟩]) (by simp) (readB_of (by kernel_rfl)) rfl a1) ?_
  (refine Runs.of_step OE14 300 ?_; simp -implicitDefEqProofs only [BB, Int.reduceEq, Int.reduceNe, Int.reduceLT, Int.reduceLE, Int.reduceGT, Int.reduceGE, Nat.reduceEqDiff, Nat.reduceAdd, Nat.reduceMul, Nat.reduceLeDiff, Nat.reduceSub, Nat.reduceLT, Nat.reduceBEq, ↓reduceIte, reduceCtorEq, ← decide_not, okind, vpre, vpure, intBin, intPre, strBin, strPre, popTo, argSlots, fldV, fldAV, subCells, idxVV, idxAAV, idxSV, sliceV, sliceSV, boundV, szIs, storeOp, storeS, setRowV, eff, extV, buildV, splice, eqSV, fitsL, eqCells, eqCell, minmaxV, capV, binBV, nilCheckV, bytesV, OE14_15, OE14_16, V.cells_agg, V.cells_int, V.cells_nils, V.cells_own, V.cells_sl, V.cells_str, V.cells_bool, V.cells_fn, V.cells_ptr, V.cells_rp, V.stays_agg, V.stays_int, V.stays_nils, V.stays_own, V.stays_sl, V.stays_str, V.stays_bool, V.stays_fn, V.stays_ptr, V.stays_rp, encT_cells, encT_stays])
  refine effR_new fun id2 σ2 s2 a2 f2 => ?_
  simp -implicitDefEqProofs only [BB, Int.reduceEq, Int.reduceNe, Int.reduceLT, Int.reduceLE, Int.reduceGT, Int.reduceGE, Nat.reduceEqDiff, Nat.reduceAdd, Nat.reduceMul, Nat.reduceLeDiff, Nat.reduceSub, Nat.reduceLT, Nat.reduceBEq, ↓reduceIte, reduceCtorEq, ← decide_not, okind, vpre, vpure, intBin, intPre, strBin, strPre, popTo, argSlots, fldV, fldAV, subCells, idxVV, idxAAV, idxSV, sliceV, sliceSV, boundV, szIs, storeOp, storeS, setRowV, eff, extV, buildV, splice, eqSV, fitsL, eqCells, eqCell, minmaxV, capV, binBV, nilCheckV, bytesV, V.cells, V.stays, OE14_14]
  refine Runs.pcall rfl rfl rfl (read_own (want := [⟨1, 40, 0, 4⟩, ⟨2, 0, 5, 5⟩, ⟨2, 0, 0, 7⟩, ⟨1, 58, 0, 8⟩, ⟨2, 0, 7, 10⟩]) (by simp) (readB_of (by kernel_rfl)) rfl a2) ?_
  (refine Runs.of_step OE14 300 ?_; simp -implicitDefEqProofs only [BB, Int.reduceEq, Int.reduceNe, Int.reduceLT, Int.reduceLE, Int.reduceGT, Int.reduceGE, Nat.reduceEqDiff, Nat.reduceAdd, Nat.reduceMul, Nat.reduceLeDiff, Nat.reduceSub, Nat.reduceLT, Nat.reduceBEq, ↓reduceIte, reduceCtorEq, ← decide_not, okind, vpre, vpure, intBin, intPre, strBin, strPre, popTo, argSlots, fldV, fldAV, subCells, idxVV, idxAAV, idxSV, sliceV, sliceSV, boundV, szIs, storeOp, storeS, setRowV, eff, extV, buildV, splice, eqSV, fitsL, eqCells, eqCell, minmaxV, capV, binBV, nilCheckV, bytesV, V.cells, V.stays, OE14_14])
  refine Runs.pcall rfl rfl rfl (read_nil (by simp) (readB_of (by kernel_rfl))) ?_
  (refine Runs.of_step OE14 300 ?_; simp -implicitDefEqProofs only [BB, Int.reduceEq, Int.reduceNe, Int.reduceLT, Int.reduceLE, Int.reduceGT, Int.reduceGE, Nat.reduceEqDiff, Nat.reduceAdd, Nat.reduceMul, Nat.reduceLeDiff, Nat.reduceSub, Nat.reduceLT, Nat.reduceBEq, ↓reduceIte, reduceCtorEq, ← decide_not, okind, vpre, vpure, intBin, intPre, strBin, strPre, popTo, argSlots, fldV, fldAV, subCells, idxVV, idxAAV, idxSV, sliceV, sliceSV, boundV, szIs, storeOp, storeS, setRowV, eff, extV, buildV, splice, eqSV, fitsL, eqCells, eqCell, minmaxV, capV, binBV, nilCheckV, bytesV, V.cells, V.stays, OE14_17])
  refine Runs.pcall rfl rfl rfl (wrong_c [255] 0 (by simp) _) ?_
  rw [show wrongB [255] 0 = true from wrongB_of (p := 0) (by kernel_rfl)]
  (refine Runs.of_step OE14 300 ?_; simp -implicitDefEqProofs only [BB, Int.reduceEq, Int.reduceNe, Int.reduceLT, Int.reduceLE, Int.reduceGT, Int.reduceGE, Nat.reduceEqDiff, Nat.reduceAdd, Nat.reduceMul, Nat.reduceLeDiff, Nat.reduceSub, Nat.reduceLT, Nat.reduceBEq, ↓reduceIte, reduceCtorEq, ← decide_not, okind, vpre, vpure, intBin, intPre, strBin, strPre, popTo, argSlots, fldV, fldAV, subCells, idxVV, idxAAV, idxSV, sliceV, sliceSV, boundV, szIs, storeOp, storeS, setRowV, eff, extV, buildV, splice, eqSV, fitsL, eqCells, eqCell, minmaxV, capV, binBV, nilCheckV, bytesV, V.cells, V.stays, OE14_17])
  refine Runs.pcall rfl rfl rfl (wrong_c [48, 48, 55] 0 (by simp) _) ?_
  rw [show wrongB [48, 48, 55] 0 = true from wrongB_of (p := 0) (by kernel_rfl)]
  (refine Runs.of_step OE14 300 ?_; simp -implicitDefEqProofs only [BB, Int.reduceEq, Int.reduceNe, Int.reduceLT, Int.reduceLE, Int.reduceGT, Int.reduceGE, Nat.reduceEqDiff, Nat.reduceAdd, Nat.reduceMul, Nat.reduceLeDiff, Nat.reduceSub, Nat.reduceLT, Nat.reduceBEq, ↓reduceIte, reduceCtorEq, ← decide_not, okind, vpre, vpure, intBin, intPre, strBin, strPre, popTo, argSlots, fldV, fldAV, subCells, idxVV, idxAAV, idxSV, sliceV, sliceSV, boundV, szIs, storeOp, storeS, setRowV, eff, extV, buildV, splice, eqSV, fitsL, eqCells, eqCell, minmaxV, capV, binBV, nilCheckV, bytesV, V.cells, V.stays, OE14_17])
  refine Runs.pcall rfl rfl rfl (wrong_c [49, 48, 57, 57, 53, 49, 49, 54, 50, 55, 55, 55, 55] 0 (by simp) _) ?_
  rw [show wrongB [49, 48, 57, 57, 53, 49, 49, 54, 50, 55, 55, 55, 55] 0 = true from wrongB_of (p := 0) (by kernel_rfl)]
  (refine Runs.of_step OE14 300 ?_; simp -implicitDefEqProofs only [BB, Int.reduceEq, Int.reduceNe, Int.reduceLT, Int.reduceLE, Int.reduceGT, Int.reduceGE, Nat.reduceEqDiff, Nat.reduceAdd, Nat.reduceMul, Nat.reduceLeDiff, Nat.reduceSub, Nat.reduceLT, Nat.reduceBEq, ↓reduceIte, reduceCtorEq, ← decide_not, okind, vpre, vpure, intBin, intPre, strBin, strPre, popTo, argSlots, fldV, fldAV, subCells, idxVV, idxAAV, idxSV, sliceV, sliceSV, boundV, szIs, storeOp, storeS, setRowV, eff, extV, buildV, splice, eqSV, fitsL, eqCells, eqCell, minmaxV, capV, binBV, nilCheckV, bytesV, OE14_15, OE14_16, V.cells_agg, V.cells_int, V.cells_nils, V.cells_own, V.cells_sl, V.cells_str, V.cells_bool, V.cells_fn, V.cells_ptr, V.cells_rp, V.stays_agg, V.stays_int, V.stays_nils, V.stays_own, V.stays_sl, V.stays_str, V.stays_bool, V.stays_fn, V.stays_ptr, V.stays_rp, encT_cells, encT_stays])
  refine effR_new fun id3 σ3 s3 a3 f3 => ?_
  simp -implicitDefEqProofs only [BB, Int.reduceEq, Int.reduceNe, Int.reduceLT, Int.reduceLE, Int.reduceGT, Int.reduceGE, Nat.reduceEqDiff, Nat.reduceAdd, Nat.reduceMul, Nat.reduceLeDiff, Nat.reduceSub, Nat.reduceLT, Nat.reduceBEq, ↓reduceIte, reduceCtorEq, ← decide_not, okind, vpre, vpure, intBin, intPre, strBin, strPre, popTo, argSlots, fldV, fldAV, subCells, idxVV, idxAAV, idxSV, sliceV, sliceSV, boundV, szIs, storeOp, storeS, setRowV, eff, extV, buildV, splice, eqSV, fitsL, eqCells, eqCell, minmaxV, capV, binBV, nilCheckV, bytesV, V.cells, V.stays, OE14_14]
  refine Runs.pcall rfl rfl rfl (read_own (want := [⟨1, 233, 0, 0⟩]) (by simp) (readB_of (by kernel_rfl)) rfl a3) ?_
  (refine Runs.of_step Orc.nothing 300 ?_; simp -implicitDefEqProofs only [BB, Int.reduceEq, Int.reduceNe, Int.reduceLT, Int.reduceLE, Int.reduceGT, Int.reduceGE, Nat.reduceEqDiff, Nat.reduceAdd, Nat.reduceMul, Nat.reduceLeDiff, Nat.reduceSub, Nat.reduceLT, Nat.reduceBEq, ↓reduceIte, reduceCtorEq, ← decide_not, okind, vpre, vpure, intBin, intPre, strBin, strPre, popTo, argSlots, fldV, fldAV, subCells, idxVV, idxAAV, idxSV, sliceV, sliceSV, boundV, szIs, storeOp, storeS, setRowV, eff, extV, buildV, splice, eqSV, fitsL, eqCells, eqCell, minmaxV, capV, binBV, nilCheckV, bytesV, V.cells, V.stays, Orc.nothing])
  exact RetV.pure ((s1.trans s2).trans s3) rfl
theorem eq_self_int (a : Int) : (a = a) = True := by simp
end Go.Vc
namespace Go.Vc
theorem sizeR_max (s : List UInt8) (i : Nat) : sizeR s i ≤ 4 := by rcases sizeR_cases s i with h | h | h | h | h <;> omega
end Go.Vc
namespace Go.Vc
open Go.Proofs
theorem ofI_bad_lt (s : List UInt8) : ∀ (m i : Nat) (c : Bool), s.length - i ≤ m → ∀ p, ofI s c i = .bad p → p < s.length := by
  intro m
  induction m with
  | zero => intro i c hm l h; rw [ofI_end (by omega)] at h; cases h
  | succ m ih =>
    intro i c hm l h
    by_cases hlt : i < s.length
    · by_cases hz : sizeR s i = 0
      · rw [ofI_bad hlt hz] at h; cases h; exact hlt
      · have cons : ∀ (r : Res) (t : Tk), r.cons t = .bad l → r = .bad l := fun r t hr => by
          cases r with
          | ok l' => cases hr
          | bad q => cases hr; rfl
        cases c
        · by_cases h35 : byt s i = 35
          · rw [ofI_hash hlt hz h35] at h
            exact ih _ _ (by omega) l h
          · by_cases hw : byt s i = 32 ∨ byt s i = 9 ∨ byt s i = 10
            · rw [ofI_white hlt hz hw] at h
              exact ih _ _ (by omega) l h
            · by_cases hd : 48 ≤ byt s i ∧ byt s i ≤ 57
              · have hdp := digLen_pos hd.1 hd.2
                rw [ofI_num hlt hz hd] at h
                split at h
                · cases h; exact hlt
                · exact ih _ _ (by omega) l (cons _ _ h)
              · rw [ofI_sign hlt hz (by omega)] at h
                exact ih _ _ (by omega) l (cons _ _ h)
        · rw [ofI_com hlt hz] at h
          exact ih _ _ (by omega) l h
    · rw [ofI_end hlt] at h; cases h
end Go.Vc
namespace Go.Vc
def scanB (c : Bool) (b : UInt8) : Option Bool := if b.toNat = 10 then some false else if c = true then some true else if b.toNat = 35 then some true else if b.toNat = 32 ∨ b.toNat = 9 then some false else none
def scanN : Bool → List UInt8 → Option Bool
  | c, [] => some c
  | c, b :: l => match scanB c b with
    | some c' => scanN c' l
    | none => none
theorem scanN_snoc {b : UInt8} : ∀ {l : List UInt8} {c c' : Bool}, scanN c l = some c' → scanN c (l ++ [b]) = scanB c' b
  | [], c, c', h => by
    simp only [scanN, Option.some.injEq] at h
    subst h
    simp only [List.nil_append, scanN]
    cases scanB c b <;> rfl
  | a :: l, c, c', h => by
    simp only [List.cons_append, scanN] at h ⊢
    cases ha : scanB c a with
    | none => rw [ha] at h; cases h
    | some c1 => rw [ha] at h; simp only at h ⊢; exact scanN_snoc h
/-- what stands between two places -/
def btw (s : List UInt8) (e i : Nat) : List UInt8 := (s.drop e).take (i - e)
theorem btw_snoc {s : List UInt8} {e i : Nat} (h : e ≤ i) (hi : i < s.length) : btw s e (i + 1) = btw s e i ++ [s[i]] := by
  unfold btw
  rw [show i + 1 - e = (i - e) + 1 by omega, List.take_add_one, List.getElem?_drop, show e + (i - e) = i by omega, List.getElem?_eq_getElem hi]
  rfl
theorem btw_self (s : List UInt8) (e : Nat) : btw s e e = [] := by simp [btw]
theorem btw_end {s : List UInt8} {e i : Nat} (h : s.length ≤ i) : btw s e i = s.drop e := by
  unfold btw; exact List.take_of_length_le (by simp; omega)
theorem scan_one {s : List UInt8} {e i : Nat} {c c' : Bool} (h : e ≤ i) (hi : i < s.length) (hs : scanN false (btw s e i) = some c) (hb : scanB c s[i] = some c') : scanN false (btw s e (i + 1)) = some c' := by
  rw [btw_snoc h hi, scanN_snoc hs, hb]
theorem scan_more {s : List UInt8} {e i : Nat} (h : e ≤ i) (hs : scanN false (btw s e i) = some true) : ∀ n, i + n ≤ s.length → (∀ k, k < n → byt s (i + k) ≠ 10) → scanN false (btw s e (i + n)) = some true
  | 0, _, _ => hs
  | n + 1, hn, hb => by
    have := scan_more h hs n (by omega) fun k hk => hb k (by omega)
    have hlt : i + n < s.length := by omega
    have hb2 := hb n (by omega)
    rw [← byt_get hlt] at hb2
    exact scan_one (i := i + n) (by omega) hlt this (by unfold scanB; rw [if_neg hb2, if_pos rfl])
structure SizeOk (s : List UInt8) (x : Tk) (i n : Nat) : Prop where
  kind : (x = ⟨1, runeR s i n, 0, i⟩ ∧ sizeR s i = n) ∨ (x = ⟨2, 0, numR (digsAt s i), i⟩ ∧ n = digLen (s.drop i) ∧ numBad (digsAt s i) = false)
  pos : n ≠ 0
  lt : i < s.length
  le : i + n ≤ s.length
def chainP (s : List UInt8) : Nat → Bool → List Tk → Prop
  | e, _, [] => e ≤ s.length ∧ (scanN false (s.drop e)).isSome = true
  | e, pn, x :: l => ∃ i n : Nat, e ≤ i ∧ (scanN false (btw s e i)).isSome = true ∧ SizeOk s x i n ∧ ¬ (x.kind = 2 ∧ pn = true ∧ i = e) ∧ chainP s (i + n) (decide (x.kind = 2)) l
theorem digLen_stop {s : List UInt8} {i : Nat} (h : i + digLen (s.drop i) < s.length) : ¬ (48 ≤ byt s (i + digLen (s.drop i)) ∧ byt s (i + digLen (s.drop i)) ≤ 57) := by
  have := dig_in (s := s) (j := i) (Nat.le_refl _)
  rw [decide_eq_false (Nat.lt_irrefl _)] at this
  intro hd
  have h2 := byt_lt.2 h
  simp [inB] at this
  omega
theorem of_chain (s : List UInt8) : ∀ (m i : Nat) (c : Bool), s.length - i ≤ m → i ≤ s.length → ∀ (e : Nat) (pn : Bool) (l : List Tk), e ≤ i → scanN false (btw s e i) = some c → (pn = true → i = e → i < s.length → ¬ (48 ≤ byt s i ∧ byt s i ≤ 57)) →
    ofI s c i = .ok l → chainP s e pn l := by
  intro m
  induction m with
  | zero =>
    intro i c hm hi e pn l he hs _ h
    rw [ofI_end (by omega)] at h
    cases h
    rw [btw_end (by omega)] at hs
    exact ⟨by omega, by rw [hs]; rfl⟩
  | succ m ih =>
    intro i c hm hi e pn l he hs hpn h
    by_cases hlt : i < s.length
    · by_cases hz : sizeR s i = 0
      · rw [ofI_bad hlt hz] at h; cases h
      · have hle := sizeR_le hlt
        have hbg := byt_get hlt
        have hsa := @sizeR_ascii s i
        have cons : ∀ (r : Res) (t : Tk), r.cons t = .ok l → ∃ l', r = .ok l' ∧ l = t :: l' := fun r t hr => by
          cases r with
          | ok l' => exact ⟨l', rfl, by simpa [Res.cons] using hr.symm⟩
          | bad => cases hr
        cases c
        · by_cases h35 : byt s i = 35
          · rw [ofI_hash hlt hz h35] at h
            refine ih _ true (by omega) (by omega) e pn l (by omega) (scan_one he hlt hs ?_) (fun _ g => by omega) h
            unfold scanB
            rw [if_neg (by omega), if_neg (by simp), if_pos (by omega)]
          · by_cases hw : byt s i = 32 ∨ byt s i = 9 ∨ byt s i = 10
            · rw [ofI_white hlt hz hw] at h
              refine ih _ false (by omega) (by omega) e pn l (by omega) (scan_one he hlt hs ?_) (fun _ g => by omega) h
              unfold scanB
              rcases hw with hw | hw | hw
              · rw [if_neg (by omega), if_neg (by simp), if_neg (by omega), if_pos (by omega)]
              · rw [if_neg (by omega), if_neg (by simp), if_neg (by omega), if_pos (by omega)]
              · rw [if_pos (by omega)]
            · by_cases hd : 48 ≤ byt s i ∧ byt s i ≤ 57
              · have hdp := digLen_pos hd.1 hd.2
                have hde := digs_end hi
                rw [ofI_num hlt hz hd] at h
                split at h
                · cases h
                · rename_i hnb
                  obtain ⟨l', h1, rfl⟩ := cons _ _ h
                  refine ⟨i, digLen (s.drop i), he, by rw [hs]; rfl, ⟨.inr ⟨rfl, rfl, by simpa using hnb⟩, by omega, hlt, hde⟩, fun ⟨_, g1, g2⟩ => hpn g1 g2 hlt hd, ?_⟩
                  exact ih _ false (by omega) hde _ _ l' (Nat.le_refl _) (by rw [btw_self]; rfl) (fun _ _ g => digLen_stop g) h1
              · rw [ofI_sign hlt hz (by omega)] at h
                obtain ⟨l', h1, rfl⟩ := cons _ _ h
                refine ⟨i, sizeR s i, he, by rw [hs]; rfl, ⟨.inl ⟨rfl, rfl⟩, hz, hlt, hle⟩, fun ⟨g, _⟩ => by simp at g, ?_⟩
                exact ih _ false (by omega) hle _ _ l' (Nat.le_refl _) (by rw [btw_self]; rfl) (fun g => by simp at g) h1
        · rw [ofI_com hlt hz] at h
          by_cases h10 : byt s i = 10
          · rw [decide_eq_false (by omega), hsa (by omega)] at h
            refine ih _ false (by omega) (by omega) e pn l (by omega) (scan_one he hlt hs ?_) (fun _ g => by omega) h
            unfold scanB; rw [if_pos (by omega)]
          · rw [decide_eq_true h10] at h
            refine ih _ true (by omega) hle e pn l (by omega) (scan_more he hs _ hle fun k hk => ?_) (fun _ g => by omega) h
            rcases Nat.eq_zero_or_pos k with rfl | hk0
            · exact h10
            · have : k = 1 ∨ k = 2 ∨ k = 3 := by have := sizeR_max s i; omega
              rcases sizeR_cases s i with q | q | q | q | q <;> rcases this with rfl | rfl | rfl <;> omega
    · rw [ofI_end hlt] at h
      cases h
      rw [btw_end (by omega)] at hs
      exact ⟨by omega, by rw [hs]; rfl⟩
theorem places_chain {s : List UInt8} {l : List Tk} (h : ofI s false 0 = .ok l) : chainP s 0 false l :=
  of_chain s s.length 0 false (by omega) (by omega) 0 false l (Nat.le_refl _) (by rw [btw_self]; rfl) (fun g => by simp at g) h
theorem u8_ofNat {n : Nat} {b : UInt8} (h : n = b.toNat) : UInt8.ofNat n = b := by
  rw [h]; exact UInt8.ofNat_toNat
set_option maxRecDepth 100000 in
/-- a character, as bytes -/
theorem enc_rune {s : List UInt8} {i : Nat} (hi : i < s.length) (hz : sizeR s i ≠ 0) : (Utf8.encode (runeR s i (sizeR s i) : Nat)).data.toList = (s.drop i).take (sizeR s i) := by
  have hle := sizeR_le hi
  have b0 := byt_get hi
  rcases sizeR_is s i with q | q | q | q | q
  · rw [q.1]
    have hr : runeR s i 1 = byt s i := rfl
    have hrhs : (s.drop i).take 1 = [s[i]] := by rw [List.drop_eq_getElem_cons hi]; rfl
    rw [hr, hrhs]
    unfold Utf8.encode
    rw [valid_nat, decide_eq_true (by omega)]
    simp only [if_true, Int.toNat_natCast]
    rw [if_pos (by omega)]
    simp [u8_ofNat b0.symm]
  · rw [q.1] at hle ⊢
    have h1 : i + 1 < s.length := by omega
    have b1 := byt_get h1
    obtain ⟨r, hr⟩ : ∃ r, r = runeR s i 2 := ⟨_, rfl⟩
    have hr' : r = 64 * (byt s i - 192) + byt s (i + 1) - 128 := hr
    have hq := q.2
    unfold q2 at hq
    have hrhs : (s.drop i).take 2 = [s[i], s[i + 1]] := by rw [List.drop_eq_getElem_cons hi, List.drop_eq_getElem_cons h1]; rfl
    rw [← hr, hrhs]
    unfold Utf8.encode
    rw [valid_nat, decide_eq_true (by omega)]
    simp only [if_true, Int.toNat_natCast]
    rw [if_neg (by omega), if_pos (by omega)]
    simp [u8_ofNat (show 192 + r / 64 = (s[i]).toNat by omega), u8_ofNat (show 128 + r % 64 = (s[i + 1]).toNat by omega)]
  · rw [q.1] at hle ⊢
    have h1 : i + 1 < s.length := by omega
    have h2 : i + 2 < s.length := by omega
    have b1 := byt_get h1
    have b2 := byt_get h2
    obtain ⟨r, hr⟩ : ∃ r, r = runeR s i 3 := ⟨_, rfl⟩
    have hr' : r = 64 * (64 * (byt s i - 224) + byt s (i + 1) - 128) + byt s (i + 2) - 128 := hr
    have hq := q.2
    unfold q3 at hq
    have hrhs : (s.drop i).take 3 = [s[i], s[i + 1], s[i + 2]] := by rw [List.drop_eq_getElem_cons hi, List.drop_eq_getElem_cons h1, List.drop_eq_getElem_cons h2]; rfl
    rw [← hr, hrhs]
    unfold Utf8.encode
    rw [valid_nat, decide_eq_true (by omega)]
    simp only [if_true, Int.toNat_natCast]
    rw [if_neg (by omega), if_neg (by omega), if_pos (by omega)]
    simp [u8_ofNat (show 224 + r / 4096 = (s[i]).toNat by omega), u8_ofNat (show 128 + r / 64 % 64 = (s[i + 1]).toNat by omega), u8_ofNat (show 128 + r % 64 = (s[i + 2]).toNat by omega)]
  · rw [q.1] at hle ⊢
    have h1 : i + 1 < s.length := by omega
    have h2 : i + 2 < s.length := by omega
    have h3 : i + 3 < s.length := by omega
    have b1 := byt_get h1
    have b2 := byt_get h2
    have b3 := byt_get h3
    obtain ⟨r, hr⟩ : ∃ r, r = runeR s i 4 := ⟨_, rfl⟩
    have hr' : r = 64 * (64 * (64 * (byt s i - 240) + byt s (i + 1) - 128) + byt s (i + 2) - 128) + byt s (i + 3) - 128 := hr
    have hq := q.2
    unfold q4 at hq
    have hrhs : (s.drop i).take 4 = [s[i], s[i + 1], s[i + 2], s[i + 3]] := by rw [List.drop_eq_getElem_cons hi, List.drop_eq_getElem_cons h1, List.drop_eq_getElem_cons h2, List.drop_eq_getElem_cons h3]; rfl
    rw [← hr, hrhs]
    unfold Utf8.encode
    rw [valid_nat, decide_eq_true (by omega)]
    simp only [if_true, Int.toNat_natCast]
    rw [if_neg (by omega), if_neg (by omega), if_neg (by omega)]
    simp [u8_ofNat (show 240 + r / 262144 = (s[i]).toNat by omega), u8_ofNat (show 128 + r / 4096 % 64 = (s[i + 1]).toNat by omega), u8_ofNat (show 128 + r / 64 % 64 = (s[i + 2]).toNat by omega),
      u8_ofNat (show 128 + r % 64 = (s[i + 3]).toNat by omega)]
  · exact absurd q.1 hz
end Go.Vc
namespace Go.Vc
open Go.Proofs
theorem nothing_c (s : List UInt8) (hs : s.length ≤ 1000000000) : PFun Tryd.prog 12 [.str s] (.bool (scanN false s).isSome) := fun σ => by
  refine Contract.of_runs Tryd.func12 e12 k12 (by simp [c12]) ?_
  refine Runs.mix 5 ?_
  (refine Runs.of_step Orc.nothing 300 ?_; simp -implicitDefEqProofs only [BB, effR_some, effD_some, Int.reduceEq, Int.reduceNe, Int.reduceLT, Int.reduceLE, Int.reduceGT, Int.reduceGE, Nat.reduceEqDiff, Nat.reduceAdd, Nat.reduceMul, Nat.reduceLeDiff, Nat.reduceSub, Nat.reduceLT, Nat.reduceBEq, ↓reduceIte, reduceCtorEq, ← decide_not, okind, vpre, vpure, intBin, intPre, strBin, strPre, popTo, argSlots, fldV, fldAV, subCells, idxVV, idxAAV, idxSV, sliceV, sliceSV, boundV, szIs, storeOp, storeS, setRowV, eff, extV, buildV, splice, eqSV, fitsL, eqCells, eqCell, minmaxV, capV, binBV, nilCheckV, bytesV, V.cells, V.stays, Orc.nothing, c12])
  refine Runs.loop (fun m st => ∃ (j : Nat) (c : Bool), j ≤ s.length ∧ m = s.length - j ∧ scanN false s = scanN c (s.drop j) ∧ st.σ = σ ∧ st.s 0 = .str s ∧ st.s 3 = .bool c ∧ st.s 4 = vI j) s.length ?_ ?_
  · exact ⟨0, false, by omega, by omega, by simp, rfl, rfl, rfl, rfl⟩
  · rintro m ⟨s', σ'⟩ ⟨j, c, hj, rfl, hp, hσ, h0, h3, h4⟩
    simp only at h0 h3 h4 hσ
    subst hσ
    refine Runs.mix 5 ?_
    by_cases hlt : j < s.length
    · have hlt' : ((j : Int) < (s.length : Int)) = True := by simp; omega
      have hx := idx_byt hlt
      have hin : inR .i64 ((j : Int) + 1) := inR_i64 (by omega) (by omega)
      have hbg := byt_get hlt
      have hd := List.drop_eq_getElem_cons hlt
      rw [hd, scanN] at hp
      by_cases h10 : byt s j = 10
      · have q1 : ((byt s j : Int) = 10) = True := by simp [h10]
        have hsb : scanB c s[j] = some false := by unfold scanB; rw [if_pos (by omega)]
        rw [hsb] at hp
        (refine Runs.of_step Orc.nothing 300 ?_; simp -implicitDefEqProofs only [BB, effR_some, effD_some, Int.reduceEq, Int.reduceNe, Int.reduceLT, Int.reduceLE, Int.reduceGT, Int.reduceGE, Nat.reduceEqDiff, Nat.reduceAdd, Nat.reduceMul, Nat.reduceLeDiff, Nat.reduceSub, Nat.reduceLT, Nat.reduceBEq, ↓reduceIte, reduceCtorEq, ← decide_not, okind, vpre, vpure, intBin, intPre, strBin, strPre, popTo, argSlots, fldV, fldAV, subCells, idxVV, idxAAV, sliceV, sliceSV, boundV, szIs, storeOp, storeS, setRowV, eff, extV, buildV, splice, eqSV, fitsL, eqCells, eqCell, minmaxV, capV, binBV, nilCheckV, bytesV, V.cells, V.stays, Orc.nothing, h0, h3, h4, hlt', hx, hin, q1])
        exact ⟨_, by omega, j + 1, false, by omega, rfl, hp, by simp⟩
      · have q1 : ((byt s j : Int) = 10) = False := by simp; omega
        cases c
        · by_cases h35 : byt s j = 35
          · have q2 : ((byt s j : Int) = 35) = True := by simp [h35]
            have hsb : scanB false s[j] = some true := by unfold scanB; rw [if_neg (by omega), if_neg (by simp), if_pos (by omega)]
            rw [hsb] at hp
            (refine Runs.of_step Orc.nothing 300 ?_; simp -implicitDefEqProofs only [BB, effR_some, effD_some, Int.reduceEq, Int.reduceNe, Int.reduceLT, Int.reduceLE, Int.reduceGT, Int.reduceGE, Nat.reduceEqDiff, Nat.reduceAdd, Nat.reduceMul, Nat.reduceLeDiff, Nat.reduceSub, Nat.reduceLT, Nat.reduceBEq, ↓reduceIte, reduceCtorEq, ← decide_not, okind, vpre, vpure, intBin, intPre, strBin, strPre, popTo, argSlots, fldV, fldAV, subCells, idxVV, idxAAV, sliceV, sliceSV, boundV, szIs, storeOp, storeS, setRowV, eff, extV, buildV, splice, eqSV, fitsL, eqCells, eqCell, minmaxV, capV, binBV, nilCheckV, bytesV, V.cells, V.stays, Orc.nothing, h0, h3, h4, hlt', hx, hin, q1, q2])
            exact ⟨_, by omega, j + 1, true, by omega, rfl, hp, by simp⟩
          · have q2 : ((byt s j : Int) = 35) = False := by simp; omega
            by_cases h32 : byt s j = 32
            · have q3 : ((byt s j : Int) ≠ 32) = False := by simp [h32]
              have hsb : scanB false s[j] = some false := by unfold scanB; rw [if_neg (by omega), if_neg (by simp), if_neg (by omega), if_pos (by omega)]
              rw [hsb] at hp
              (refine Runs.of_step Orc.nothing 300 ?_; simp -implicitDefEqProofs only [BB, effR_some, effD_some, Int.reduceEq, Int.reduceNe, Int.reduceLT, Int.reduceLE, Int.reduceGT, Int.reduceGE, Nat.reduceEqDiff, Nat.reduceAdd, Nat.reduceMul, Nat.reduceLeDiff, Nat.reduceSub, Nat.reduceLT, Nat.reduceBEq, ↓reduceIte, reduceCtorEq, ← decide_not, okind, vpre, vpure, intBin, intPre, strBin, strPre, popTo, argSlots, fldV, fldAV, subCells, idxVV, idxAAV, sliceV, sliceSV, boundV, szIs, storeOp, storeS, setRowV, eff, extV, buildV, splice, eqSV, fitsL, eqCells, eqCell, minmaxV, capV, binBV, nilCheckV, bytesV, V.cells, V.stays, Orc.nothing, h0, h3, h4, hlt', hx, hin, q1, q2, q3])
              exact ⟨_, by omega, j + 1, false, by omega, rfl, hp, by simp⟩
            · have q3 : ((byt s j : Int) ≠ 32) = True := by simp; omega
              by_cases h9 : byt s j = 9
              · have q4 : ((byt s j : Int) ≠ 9) = False := by simp [h9]
                have hsb : scanB false s[j] = some false := by unfold scanB; rw [if_neg (by omega), if_neg (by simp), if_neg (by omega), if_pos (by omega)]
                rw [hsb] at hp
                (refine Runs.of_step Orc.nothing 300 ?_; simp -implicitDefEqProofs only [BB, effR_some, effD_some, Int.reduceEq, Int.reduceNe, Int.reduceLT, Int.reduceLE, Int.reduceGT, Int.reduceGE, Nat.reduceEqDiff, Nat.reduceAdd, Nat.reduceMul, Nat.reduceLeDiff, Nat.reduceSub, Nat.reduceLT, Nat.reduceBEq, ↓reduceIte, reduceCtorEq, ← decide_not, okind, vpre, vpure, intBin, intPre, strBin, strPre, popTo, argSlots, fldV, fldAV, subCells, idxVV, idxAAV, sliceV, sliceSV, boundV, szIs, storeOp, storeS, setRowV, eff, extV, buildV, splice, eqSV, fitsL, eqCells, eqCell, minmaxV, capV, binBV, nilCheckV, bytesV, V.cells, V.stays, Orc.nothing, h0, h3, h4, hlt', hx, hin, q1, q2, q3, q4])
                exact ⟨_, by omega, j + 1, false, by omega, rfl, hp, by simp⟩
              · have q4 : ((byt s j : Int) ≠ 9) = True := by simp; omega
                have hsb : scanB false s[j] = none := by unfold scanB; rw [if_neg (by omega), if_neg (by simp), if_neg (by omega), if_neg (by omega)]
                rw [hsb] at hp
                (refine Runs.of_step Orc.nothing 300 ?_; simp -implicitDefEqProofs only [BB, effR_some, effD_some, Int.reduceEq, Int.reduceNe, Int.reduceLT, Int.reduceLE, Int.reduceGT, Int.reduceGE, Nat.reduceEqDiff, Nat.reduceAdd, Nat.reduceMul, Nat.reduceLeDiff, Nat.reduceSub, Nat.reduceLT, Nat.reduceBEq, ↓reduceIte, reduceCtorEq, ← decide_not, okind, vpre, vpure, intBin, intPre, strBin, strPre, popTo, argSlots, fldV, fldAV, subCells, idxVV, idxAAV, sliceV, sliceSV, boundV, szIs, storeOp, storeS, setRowV, eff, extV, buildV, splice, eqSV, fitsL, eqCells, eqCell, minmaxV, capV, binBV, nilCheckV, bytesV, V.cells, V.stays, Orc.nothing, h0, h3, h4, hlt', hx, hin, q1, q2, q3, q4])
                exact RetV.same (by rw [hp]; rfl)
        · have hsb : scanB true s[j] = some true := by unfold scanB; rw [if_neg (by omega), if_pos rfl]
          rw [hsb] at hp
          (refine Runs.of_step Orc.nothing 300 ?_; simp -implicitDefEqProofs only [BB, effR_some, effD_some, Int.reduceEq, Int.reduceNe, Int.reduceLT, Int.reduceLE, Int.reduceGT, Int.reduceGE, Nat.reduceEqDiff, Nat.reduceAdd, Nat.reduceMul, Nat.reduceLeDiff, Nat.reduceSub, Nat.reduceLT, Nat.reduceBEq, ↓reduceIte, reduceCtorEq, ← decide_not, okind, vpre, vpure, intBin, intPre, strBin, strPre, popTo, argSlots, fldV, fldAV, subCells, idxVV, idxAAV, sliceV, sliceSV, boundV, szIs, storeOp, storeS, setRowV, eff, extV, buildV, splice, eqSV, fitsL, eqCells, eqCell, minmaxV, capV, binBV, nilCheckV, bytesV, V.cells, V.stays, Orc.nothing, h0, h3, h4, hlt', hx, hin, q1])
          exact ⟨_, by omega, j + 1, true, by omega, rfl, hp, by simp⟩
    · have hlt' : ((j : Int) < (s.length : Int)) = False := by simp; omega
      (refine Runs.of_step Orc.nothing 300 ?_; simp -implicitDefEqProofs only [BB, effR_some, effD_some, Int.reduceEq, Int.reduceNe, Int.reduceLT, Int.reduceLE, Int.reduceGT, Int.reduceGE, Nat.reduceEqDiff, Nat.reduceAdd, Nat.reduceMul, Nat.reduceLeDiff, Nat.reduceSub, Nat.reduceLT, Nat.reduceBEq, ↓reduceIte, reduceCtorEq, ← decide_not, okind, vpre, vpure, intBin, intPre, strBin, strPre, popTo, argSlots, fldV, fldAV, subCells, idxVV, idxAAV, idxSV, sliceV, sliceSV, boundV, szIs, storeOp, storeS, setRowV, eff, extV, buildV, splice, eqSV, fitsL, eqCells, eqCell, minmaxV, capV, binBV, nilCheckV, bytesV, V.cells, V.stays, Orc.nothing, h0, h3, h4, hlt'])
      refine RetV.same ?_
      rw [hp, List.drop_eq_nil_of_le (by omega)]; rfl
theorem slice_str {s : List UInt8} {i n : Nat} (h : i + n ≤ s.length) : sliceSV (.str s) (some (vI i)) (some (vI ((i : Int) + n))) = some (.str ((s.drop i).take n)) := by
  simp only [sliceSV, boundV]
  rw [if_pos (by omega), show ((i : Int) + n).toNat - ((i : Int)).toNat = n by omega, Int.toNat_natCast]
set_option maxRecDepth 100000 in
theorem size_sign {s : List UInt8} (hs : s.length ≤ 1000000) {i : Nat} (hi : i < s.length) (hz : sizeR s i ≠ 0) : PFun Tryd.prog 13 [.str s, encT ⟨1, runeR s i (sizeR s i), 0, i⟩] (vI (sizeR s i)) := fun σ => by
  refine Contract.of_runs Tryd.func13 e13 k13 (by simp [c13]) ?_
  refine Runs.mix 8 ?_
  have hle := sizeR_le hi
  have henc := enc_rune hi hz
  have hlen : ((s.drop i).take (sizeR s i)).length = sizeR s i := by simp; omega
  have hsl := slice_str hle
  generalize hC : (s.drop i).take (sizeR s i) = cs at *
  have r1 : inR .i64 ((i : Int) + (sizeR s i : Int)) := inR_i64 (by omega) (by omega)
  have q1 : ((i : Int) + (sizeR s i : Int) > (s.length : Int)) = False := by simp; omega
  have q2 : (cs ≠ cs) = False := by simp
  (refine Runs.of_step Orc.nothing 300 ?_; simp -implicitDefEqProofs only [BB, Int.reduceEq, Int.reduceNe, Int.reduceLT, Int.reduceLE, Int.reduceGT, Int.reduceGE, Nat.reduceEqDiff, Nat.reduceAdd, Nat.reduceMul, Nat.reduceLeDiff, Nat.reduceSub, Nat.reduceLT, Nat.reduceBEq, ↓reduceIte, reduceCtorEq, ← decide_not, okind, vpre, vpure, intBin, intPre, strBin, strPre, popTo, argSlots, fldV, fldAV, subCells, idxVV, idxAAV, idxSV, sliceV, sliceSV, boundV, szIs, storeOp, storeS, setRowV, eff, extV, buildV, splice, eqSV, fitsL, eqCells, eqCell, minmaxV, capV, binBV, nilCheckV, bytesV, V.cells, V.stays, Orc.nothing, c13, encT])
  refine effR_new fun id3 σ1 s1 a3 f3 => ?_
  simp -implicitDefEqProofs only [BB, Int.reduceEq, Int.reduceNe, Int.reduceLT, Int.reduceLE, Int.reduceGT, Int.reduceGE, Nat.reduceEqDiff, Nat.reduceAdd, Nat.reduceMul, Nat.reduceLeDiff, Nat.reduceSub, Nat.reduceLT, Nat.reduceBEq, ↓reduceIte, reduceCtorEq, ← decide_not, okind, vpre, vpure, intBin, intPre, strBin, strPre, popTo, argSlots, fldV, fldAV, subCells, idxVV, idxAAV, idxSV, sliceV, sliceSV, boundV, szIs, storeOp, storeS, setRowV, eff, extV, buildV, splice, eqSV, fitsL, eqCells, eqCell, minmaxV, capV, binBV, nilCheckV, bytesV, a3, V.cells_agg, V.cells_int, V.cells_nils, V.cells_own, V.cells_sl, V.cells_str, V.cells_bool, V.cells_fn, V.cells_ptr, V.cells_rp, V.stays_agg, V.stays_int, V.stays_nils, V.stays_own, V.stays_sl, V.stays_str, V.stays_bool, V.stays_fn, V.stays_ptr, V.stays_rp]
  refine Runs.runeS rfl rfl rfl ?_
  rw [henc]
  (refine Runs.of_step Orc.nothing 300 ?_; simp -implicitDefEqProofs only [BB, Int.reduceEq, Int.reduceNe, Int.reduceLT, Int.reduceLE, Int.reduceGT, Int.reduceGE, Nat.reduceEqDiff, Nat.reduceAdd, Nat.reduceMul, Nat.reduceLeDiff, Nat.reduceSub, Nat.reduceLT, Nat.reduceBEq, ↓reduceIte, reduceCtorEq, ← decide_not, okind, vpre, vpure, intBin, intPre, strBin, strPre, popTo, argSlots, fldV, fldAV, subCells, idxVV, idxAAV, idxSV, sliceV, boundV, szIs, storeOp, storeS, setRowV, eff, extV, buildV, splice, eqSV, fitsL, eqCells, eqCell, minmaxV, capV, binBV, nilCheckV, bytesV, Orc.nothing, a3, V.cells_agg, V.cells_int, V.cells_nils, V.cells_own, V.cells_sl, V.cells_str, V.cells_bool, V.cells_fn, V.cells_ptr, V.cells_rp, V.stays_agg, V.stays_int, V.stays_nils, V.stays_own, V.stays_sl, V.stays_str, V.stays_bool, V.stays_fn, V.stays_ptr, V.stays_rp, hlen, r1, q1, q2, hsl])
  exact RetV.pure s1 rfl
set_option maxRecDepth 100000 in
theorem size_num {s : List UInt8} (hs : s.length ≤ 1000000) {i : Nat} (hi : i < s.length) (hd : 0 < digLen (s.drop i)) (hnb : numBad (digsAt s i) = false) : PFun Tryd.prog 13 [.str s, encT ⟨2, 0, numR (digsAt s i), i⟩] (vI (digLen (s.drop i))) := fun σ => by
  refine Contract.of_runs Tryd.func13 e13 k13 (by simp [c13]) ?_
  refine Runs.mix 8 ?_
  (refine Runs.of_step Orc.nothing 300 ?_; simp -implicitDefEqProofs only [BB, Int.reduceEq, Int.reduceNe, Int.reduceLT, Int.reduceLE, Int.reduceGT, Int.reduceGE, Nat.reduceEqDiff, Nat.reduceAdd, Nat.reduceMul, Nat.reduceLeDiff, Nat.reduceSub, Nat.reduceLT, Nat.reduceBEq, ↓reduceIte, reduceCtorEq, ← decide_not, okind, vpre, vpure, intBin, intPre, strBin, strPre, popTo, argSlots, fldV, fldAV, subCells, idxVV, idxAAV, idxSV, sliceV, sliceSV, boundV, szIs, storeOp, storeS, setRowV, eff, extV, buildV, splice, eqSV, fitsL, eqCells, eqCell, minmaxV, capV, binBV, nilCheckV, bytesV, V.cells, V.stays, Orc.nothing, c13, encT])
  refine effR_new fun id3 σ1 s1 a3 f3 => ?_
  simp -implicitDefEqProofs only [BB, Int.reduceEq, Int.reduceNe, Int.reduceLT, Int.reduceLE, Int.reduceGT, Int.reduceGE, Nat.reduceEqDiff, Nat.reduceAdd, Nat.reduceMul, Nat.reduceLeDiff, Nat.reduceSub, Nat.reduceLT, Nat.reduceBEq, ↓reduceIte, reduceCtorEq, ← decide_not, okind, vpre, vpure, intBin, intPre, strBin, strPre, popTo, argSlots, fldV, fldAV, subCells, idxVV, idxAAV, idxSV, sliceV, sliceSV, boundV, szIs, storeOp, storeS, setRowV, eff, extV, buildV, splice, eqSV, fitsL, eqCells, eqCell, minmaxV, capV, binBV, nilCheckV, bytesV, a3, V.cells_agg, V.cells_int, V.cells_nils, V.cells_own, V.cells_sl, V.cells_str, V.cells_bool, V.cells_fn, V.cells_ptr, V.cells_rp, V.stays_agg, V.stays_int, V.stays_nils, V.stays_own, V.stays_sl, V.stays_str, V.stays_bool, V.stays_fn, V.stays_ptr, V.stays_rp]
  have hde := digs_end (Nat.le_of_lt hi)
  have htot : numR (digsAt s i) ≤ 1099511627776 := by
    unfold numBad at hnb
    simp only [Bool.or_eq_false_iff, decide_eq_false_iff_not] at hnb
    omega
  have hmono : ∀ d, d ≤ digLen (s.drop i) → numR ((s.drop i).take d) ≤ 1099511627776 := fun d hdl => by
    have h1 : digsAt s i = (s.drop i).take d ++ ((digsAt s i).drop d) := by
      have : (digsAt s i).take d = (s.drop i).take d := by unfold digsAt; rw [List.take_take, Nat.min_eq_left hdl]
      rw [← this, List.take_append_drop]
    have h2 : numR ((s.drop i).take d) ≤ numR (digsAt s i) := by
      rw [h1]
      have := fold_ge ((digsAt s i).drop d) (numR ((s.drop i).take d))
      have h3 : numR ((s.drop i).take d ++ (digsAt s i).drop d) = ((digsAt s i).drop d).foldl (fun n b => 10 * n + (b.toNat - 48)) (numR ((s.drop i).take d)) := by simp [numR, List.foldl_append]
      rw [h3]
      have h4 : 1 ≤ 10 ^ ((digsAt s i).drop d).length := Nat.pos_of_ne_zero (by simp)
      exact Nat.le_trans (Nat.le_mul_of_pos_right _ h4) this
    omega
  have hdi := fun d => @dig_in s i d
  have hdg := dig_get (s := s) (j := i)
  have htd := take_digs (s := s) (j := i)
  have hstop := digLen_stop (s := s) (i := i)
  generalize hD : digLen (s.drop i) = D at *
  generalize hT : numR (digsAt s i) = T at *
  refine Runs.loop (fun m st => ∃ d : Nat, d ≤ D ∧ m = D - d ∧ SubStore σ st.σ ∧ st.σ id3 = some ⟨32, 4, [.agg [vI 2, .int .i32 0, vI T, vI i]]⟩ ∧ st.s 0 = .str s ∧ st.s 3 = .ptr id3 0 0 ∧
    st.s 6 = vI (numR ((s.drop i).take d)) ∧ st.s 7 = vI ((i + d : Nat) : Int)) D ?_ ?_
  · exact ⟨0, by omega, by omega, s1, a3, rfl, rfl, rfl, rfl⟩
  · rintro m ⟨s', σ'⟩ ⟨d, hdD, rfl, hsub, hrow, h0, h3, h6, h7⟩
    simp only at hsub hrow h0 h3 h6 h7
    have hN := hmono d hdD
    refine Runs.mix 8 ?_
    by_cases hlt : d < D
    · obtain ⟨b, t1, t2, t3, t4⟩ := hdg d hlt
      have hx := idx_byt (byt_some (s := s) (i := i + d) (by omega))
      rw [t2] at hx
      have hn2 := numR_snoc ((s.drop i).take d) b
      rw [← t1] at hn2
      have hN2 := hmono (d + 1) hlt
      generalize numR ((s.drop i).take d) = N at *
      have q1 : (((i + d : Nat) : Int) < (s.length : Int)) = True := by simp; omega
      have q2 : ((b.toNat : Int) ≥ 48) = True := by simp; omega
      have q3 : ((b.toNat : Int) ≤ 57) = True := by simp; omega
      have q4 : ((N : Int) ≤ 1099511627776) = True := by simp; omega
      have r1 : inR .i64 (10 * (N : Int)) := inR_i64 (by omega) (by omega)
      have r2 : inR .u8 ((b.toNat : Int) - 48) := by unfold inR; rw [IntKind.wrap_u8]; omega
      have r3 : inR .i64 ((b.toNat : Int) - 48) := inR_i64 (by omega) (by omega)
      have r4 : inR .i64 (10 * (N : Int) + ((b.toNat : Int) - 48)) := inR_i64 (by omega) (by omega)
      have r5 : inR .i64 (((i + d : Nat) : Int) + 1) := inR_i64 (by omega) (by omega)
      (refine Runs.of_step Orc.nothing 300 ?_; simp -implicitDefEqProofs only [BB, effR_some, effD_some, Int.reduceEq, Int.reduceNe, Int.reduceLT, Int.reduceLE, Int.reduceGT, Int.reduceGE, Nat.reduceEqDiff, Nat.reduceAdd, Nat.reduceMul, Nat.reduceLeDiff, Nat.reduceSub, Nat.reduceLT, Nat.reduceBEq, ↓reduceIte, reduceCtorEq, ← decide_not, okind, vpre, vpure, intBin, intPre, strBin, strPre, popTo, argSlots, fldV, fldAV, subCells, idxVV, idxAAV, sliceV, sliceSV, boundV, szIs, storeOp, storeS, setRowV, eff, extV, buildV, splice, eqSV, fitsL, eqCells, eqCell, minmaxV, capV, binBV, nilCheckV, bytesV, Orc.nothing, h0, h3, h6, h7, hrow, V.cells_agg, V.cells_int, V.cells_nils, V.cells_own, V.cells_sl, V.cells_str, V.cells_bool, V.cells_fn, V.cells_ptr, V.cells_rp, V.stays_agg, V.stays_int, V.stays_nils, V.stays_own, V.stays_sl, V.stays_str, V.stays_bool, V.stays_fn, V.stays_ptr, V.stays_rp, q1, q2, q3, q4, hx, r1, r2, r3, r4, r5])
      refine ⟨_, ?_, d + 1, by omega, rfl, hsub, ?_⟩
      · omega
      · rw [hn2]
        simp only [vI, V.int.injEq, true_and]
        omega
    · obtain rfl : d = D := by omega
      rw [htd, hT] at h6
      have r1 : inR .i64 (((i + d : Nat) : Int) - (i : Int)) := inR_i64 (by omega) (by omega)
      have q5 : ((T : Int) ≠ (T : Int)) = False := by simp
      have e1 : ((i + d : Nat) : Int) - (i : Int) = (d : Int) := by omega
      by_cases hend : i + d < s.length
      · have q1 : (((i + d : Nat) : Int) < (s.length : Int)) = True := by simp; omega
        have hx := idx_byt hend
        have hst := hstop hend
        by_cases h48 : byt s (i + d) ≥ 48
        · have q2 : ((byt s (i + d) : Int) ≥ 48) = True := by simp; omega
          have q3 : ((byt s (i + d) : Int) ≤ 57) = False := by simp; omega
          (refine Runs.of_step Orc.nothing 300 ?_; simp -implicitDefEqProofs only [BB, effR_some, effD_some, Int.reduceEq, Int.reduceNe, Int.reduceLT, Int.reduceLE, Int.reduceGT, Int.reduceGE, Nat.reduceEqDiff, Nat.reduceAdd, Nat.reduceMul, Nat.reduceLeDiff, Nat.reduceSub, Nat.reduceLT, Nat.reduceBEq, ↓reduceIte, reduceCtorEq, ← decide_not, okind, vpre, vpure, intBin, intPre, strBin, strPre, popTo, argSlots, fldV, fldAV, subCells, idxVV, idxAAV, sliceV, sliceSV, boundV, szIs, storeOp, storeS, setRowV, eff, extV, buildV, splice, eqSV, fitsL, eqCells, eqCell, minmaxV, capV, binBV, nilCheckV, bytesV, Orc.nothing, h0, h3, h6, h7, hrow, V.cells_agg, V.cells_int, V.cells_nils, V.cells_own, V.cells_sl, V.cells_str, V.cells_bool, V.cells_fn, V.cells_ptr, V.cells_rp, V.stays_agg, V.stays_int, V.stays_nils, V.stays_own, V.stays_sl, V.stays_str, V.stays_bool, V.stays_fn, V.stays_ptr, V.stays_rp, q1, q2, q3, q5, hx, r1])
          exact RetV.pure hsub (by rw [e1])
        · have q2 : ((byt s (i + d) : Int) ≥ 48) = False := by simp; omega
          (refine Runs.of_step Orc.nothing 300 ?_; simp -implicitDefEqProofs only [BB, effR_some, effD_some, Int.reduceEq, Int.reduceNe, Int.reduceLT, Int.reduceLE, Int.reduceGT, Int.reduceGE, Nat.reduceEqDiff, Nat.reduceAdd, Nat.reduceMul, Nat.reduceLeDiff, Nat.reduceSub, Nat.reduceLT, Nat.reduceBEq, ↓reduceIte, reduceCtorEq, ← decide_not, okind, vpre, vpure, intBin, intPre, strBin, strPre, popTo, argSlots, fldV, fldAV, subCells, idxVV, idxAAV, sliceV, sliceSV, boundV, szIs, storeOp, storeS, setRowV, eff, extV, buildV, splice, eqSV, fitsL, eqCells, eqCell, minmaxV, capV, binBV, nilCheckV, bytesV, Orc.nothing, h0, h3, h6, h7, hrow, V.cells_agg, V.cells_int, V.cells_nils, V.cells_own, V.cells_sl, V.cells_str, V.cells_bool, V.cells_fn, V.cells_ptr, V.cells_rp, V.stays_agg, V.stays_int, V.stays_nils, V.stays_own, V.stays_sl, V.stays_str, V.stays_bool, V.stays_fn, V.stays_ptr, V.stays_rp, q1, q2, q5, hx, r1])
          exact RetV.pure hsub (by rw [e1])
      · have q1 : (((i + d : Nat) : Int) < (s.length : Int)) = False := by simp; omega
        (refine Runs.of_step Orc.nothing 300 ?_; simp -implicitDefEqProofs only [BB, effR_some, effD_some, Int.reduceEq, Int.reduceNe, Int.reduceLT, Int.reduceLE, Int.reduceGT, Int.reduceGE, Nat.reduceEqDiff, Nat.reduceAdd, Nat.reduceMul, Nat.reduceLeDiff, Nat.reduceSub, Nat.reduceLT, Nat.reduceBEq, ↓reduceIte, reduceCtorEq, ← decide_not, okind, vpre, vpure, intBin, intPre, strBin, strPre, popTo, argSlots, fldV, fldAV, subCells, idxVV, idxAAV, sliceV, sliceSV, boundV, szIs, storeOp, storeS, setRowV, eff, extV, buildV, splice, eqSV, fitsL, eqCells, eqCell, minmaxV, capV, binBV, nilCheckV, bytesV, Orc.nothing, h0, h3, h6, h7, hrow, V.cells_agg, V.cells_int, V.cells_nils, V.cells_own, V.cells_sl, V.cells_str, V.cells_bool, V.cells_fn, V.cells_ptr, V.cells_rp, V.stays_agg, V.stays_int, V.stays_nils, V.stays_own, V.stays_sl, V.stays_str, V.stays_bool, V.stays_fn, V.stays_ptr, V.stays_rp, q1, q5, r1])
        exact RetV.pure hsub (by rw [e1])
end Go.Vc
namespace Go.Vc
open Go.Proofs
theorem cells_kind (t : Tk) : (encT t).cells = [vI t.kind, .int .i32 t.sign, vI t.n, vI t.at'] := rfl
set_option maxRecDepth 100000 in
theorem lexPlaces_c (s : List UInt8) : PFun Tryd.prog 4 [.str s] (.bool true) := fun σ => by
  refine Contract.of_runs Tryd.func4 e4 k4 (by simp [c4]) ?_
  refine Runs.mix 10 ?_
  by_cases hs : s.length > 5000
  · have q1 : ((s.length : Int) > 5000) = True := by simp; omega
    (refine Runs.of_step Orc.nothing 300 ?_; simp -implicitDefEqProofs only [BB, Int.reduceEq, Int.reduceNe, Int.reduceLT, Int.reduceLE, Int.reduceGT, Int.reduceGE, Nat.reduceEqDiff, Nat.reduceAdd, Nat.reduceMul, Nat.reduceLeDiff, Nat.reduceSub, Nat.reduceLT, Nat.reduceBEq, ↓reduceIte, reduceCtorEq, ← decide_not, okind, vpre, vpure, intBin, intPre, strBin, strPre, popTo, argSlots, fldV, fldAV, subCells, idxVV, idxAAV, idxSV, sliceV, sliceSV, boundV, szIs, storeOp, storeS, setRowV, eff, extV, buildV, splice, eqSV, fitsL, eqCells, eqCell, minmaxV, capV, binBV, nilCheckV, bytesV, V.cells, V.stays, Orc.nothing, c4, q1])
    refine Runs.pcall rfl rfl rfl (awake6_c _) ?_
    (refine Runs.of_step Orc.nothing 300 ?_; simp -implicitDefEqProofs only [BB, Int.reduceEq, Int.reduceNe, Int.reduceLT, Int.reduceLE, Int.reduceGT, Int.reduceGE, Nat.reduceEqDiff, Nat.reduceAdd, Nat.reduceMul, Nat.reduceLeDiff, Nat.reduceSub, Nat.reduceLT, Nat.reduceBEq, ↓reduceIte, reduceCtorEq, ← decide_not, okind, vpre, vpure, intBin, intPre, strBin, strPre, popTo, argSlots, fldV, fldAV, subCells, idxVV, idxAAV, idxSV, sliceV, sliceSV, boundV, szIs, storeOp, storeS, setRowV, eff, extV, buildV, splice, eqSV, fitsL, eqCells, eqCell, minmaxV, capV, binBV, nilCheckV, bytesV, V.cells, V.stays, Orc.nothing])
    exact RetV.same rfl
  · have q1 : ((s.length : Int) > 5000) = False := by simp; omega
    (refine Runs.of_step Orc.nothing 300 ?_; simp -implicitDefEqProofs only [BB, Int.reduceEq, Int.reduceNe, Int.reduceLT, Int.reduceLE, Int.reduceGT, Int.reduceGE, Nat.reduceEqDiff, Nat.reduceAdd, Nat.reduceMul, Nat.reduceLeDiff, Nat.reduceSub, Nat.reduceLT, Nat.reduceBEq, ↓reduceIte, reduceCtorEq, ← decide_not, okind, vpre, vpure, intBin, intPre, strBin, strPre, popTo, argSlots, fldV, fldAV, subCells, idxVV, idxAAV, idxSV, sliceV, sliceSV, boundV, szIs, storeOp, storeS, setRowV, eff, extV, buildV, splice, eqSV, fitsL, eqCells, eqCell, minmaxV, capV, binBV, nilCheckV, bytesV, V.cells, V.stays, Orc.nothing, c4, q1])
    refine Runs.pcall rfl rfl rfl (of_lex s (by omega) _) ?_
    have hpb := ofI_bad_lt s _ 0 false (Nat.le_refl _)
    have hll := ofI_len s _ 0 false (Nat.le_refl _)
    cases hA : ofI s false 0 with
    | bad p =>
      have hp := hpb p hA
      have hR : resT (.bad p) = .tup [.sl 4 [], vI p, vI 1] := rfl
      rw [hR]
      have q2 : ((p : Int) ≥ 0) = True := by simp
      have q3 : ((p : Int) < (s.length : Int)) = True := by simp; omega
      (refine Runs.of_step Orc.nothing 300 ?_; simp -implicitDefEqProofs only [BB, Int.reduceEq, Int.reduceNe, Int.reduceLT, Int.reduceLE, Int.reduceGT, Int.reduceGE, Nat.reduceEqDiff, Nat.reduceAdd, Nat.reduceMul, Nat.reduceLeDiff, Nat.reduceSub, Nat.reduceLT, Nat.reduceBEq, ↓reduceIte, reduceCtorEq, ← decide_not, okind, vpre, vpure, intBin, intPre, strBin, strPre, popTo, argSlots, fldV, fldAV, subCells, idxVV, idxAAV, idxSV, sliceV, sliceSV, boundV, szIs, storeOp, storeS, setRowV, eff, extV, buildV, splice, eqSV, fitsL, eqCells, eqCell, minmaxV, capV, binBV, nilCheckV, bytesV, V.cells, V.stays, Orc.nothing, len_sl0, q2, q3, eq_self_int, Int.natCast_zero])
      refine Runs.pcall rfl rfl rfl (awake6_c _) ?_
      (refine Runs.of_step Orc.nothing 300 ?_; simp -implicitDefEqProofs only [BB, Int.reduceEq, Int.reduceNe, Int.reduceLT, Int.reduceLE, Int.reduceGT, Int.reduceGE, Nat.reduceEqDiff, Nat.reduceAdd, Nat.reduceMul, Nat.reduceLeDiff, Nat.reduceSub, Nat.reduceLT, Nat.reduceBEq, ↓reduceIte, reduceCtorEq, ← decide_not, okind, vpre, vpure, intBin, intPre, strBin, strPre, popTo, argSlots, fldV, fldAV, subCells, idxVV, idxAAV, idxSV, sliceV, sliceSV, boundV, szIs, storeOp, storeS, setRowV, eff, extV, buildV, splice, eqSV, fitsL, eqCells, eqCell, minmaxV, capV, binBV, nilCheckV, bytesV, V.cells, V.stays, Orc.nothing])
      exact RetV.same rfl
    | ok l =>
      have hl := hll l hA
      have hch := places_chain hA
      have hR : resT (.ok l) = .tup [encL l, vI 0, vI 0] := rfl
      rw [hR]
      (refine Runs.of_step Orc.nothing 300 ?_; simp -implicitDefEqProofs only [BB, Int.reduceEq, Int.reduceNe, Int.reduceLT, Int.reduceLE, Int.reduceGT, Int.reduceGE, Nat.reduceEqDiff, Nat.reduceAdd, Nat.reduceMul, Nat.reduceLeDiff, Nat.reduceSub, Nat.reduceLT, Nat.reduceBEq, ↓reduceIte, reduceCtorEq, ← decide_not, okind, vpre, vpure, intBin, intPre, strBin, strPre, popTo, argSlots, fldV, fldAV, subCells, idxVV, idxAAV, idxSV, sliceV, sliceSV, boundV, szIs, storeOp, storeS, setRowV, eff, extV, buildV, splice, eqSV, fitsL, eqCells, eqCell, minmaxV, capV, binBV, nilCheckV, bytesV, V.cells, V.stays, Orc.nothing])
      refine Runs.loop (fun m st => ∃ (i e : Nat) (pn : Bool), i ≤ l.length ∧ m = l.length - i ∧ chainP s e pn (l.drop i) ∧ (∀ k, i = k + 1 → ∀ h : k < l.length, pn = decide (l[k].kind = 2)) ∧ SubStore σ st.σ ∧
        st.s 0 = .str s ∧ st.s 3 = encL l ∧ st.s 6 = vI e ∧ st.s 7 = vI i) l.length ?_ ?_
      · exact ⟨0, 0, false, by omega, by omega, hch, fun k h => by omega, SubStore.refl σ, rfl, rfl, rfl, rfl⟩
      · rintro m ⟨s', σ'⟩ ⟨i, e, pn, hi, rfl, hc, hpn, hsub, h0, h3, h6, h7⟩
        simp only at hsub h0 h3 h6 h7
        refine Runs.mix 10 ?_
        by_cases hlt : i < l.length
        · have hlt' : ((i : Int) < (l.length : Int)) = True := by simp; omega
          have hidx := idx_encL (σ := σ') hlt
          rw [List.drop_eq_getElem_cons hlt] at hc
          obtain ⟨j, n, he, hsc, hok, hadj, hc2⟩ := hc
          have hpn2 : ∀ k, i + 1 = k + 1 → ∀ h : k < l.length, decide (l[i].kind = 2) = decide (l[k].kind = 2) := fun k hk h => by
            have : i = k := by omega
            subst this; rfl
          have hjl := hok.lt
          have hle := hok.le
          have hnz := hok.pos
          have hin : inR .i64 ((i : Int) + 1) := inR_i64 (by omega) (by omega)
          have hsl : sliceSV (.str s) (some (vI e)) (some (vI j)) = some (.str (btw s e j)) := by
            simp only [sliceSV, boundV]
            rw [if_pos (by omega), show ((j : Int)).toNat - ((e : Int)).toNat = j - e by omega, Int.toNat_natCast]; rfl
          have hnc := nothing_c (btw s e j) (by simp [btw]; omega)
          rw [hsc] at hnc
          have w1 : ((j : Int) < (e : Int)) = False := by simp; omega
          have w2 : ((j : Int) ≥ (s.length : Int)) = False := by simp; omega
          have w3 : ((n : Int) = 0) = False := by simp; omega
          have r1 : inR .i64 ((j : Int) + (n : Int)) := inR_i64 (by omega) (by omega)
          have r2 : inR .i64 ((i : Int) - 1) := inR_i64 (by omega) (by omega)
          rcases hok.kind with ⟨hx, hn⟩ | ⟨hx, hn, hnb⟩
          · have hsz := size_sign (s := s) (by omega) hjl (by omega)
            rw [hn] at hsz
            have hfin : decide (l[i].kind = 2) = false := by rw [hx]; rfl
            rw [hfin] at hc2 hpn2
            generalize l[i] = x at *
            subst hx
            generalize ((runeR s j n : Nat) : Int) = r at *
            (refine Runs.of_step Orc.nothing 300 ?_; simp -implicitDefEqProofs only [BB, Int.reduceEq, Int.reduceNe, Int.reduceLT, Int.reduceLE, Int.reduceGT, Int.reduceGE, Nat.reduceEqDiff, Nat.reduceAdd, Nat.reduceMul, Nat.reduceLeDiff, Nat.reduceSub, Nat.reduceLT, Nat.reduceBEq, ↓reduceIte, reduceCtorEq, ← decide_not, okind, vpre, vpure, intBin, intPre, strBin, strPre, popTo, argSlots, fldV, fldAV, subCells, idxVV, idxAAV, idxSV, sliceV, sliceSV, boundV, szIs, storeOp, storeS, setRowV, eff, extV, buildV, splice, eqSV, fitsL, eqCells, eqCell, minmaxV, capV, binBV, nilCheckV, bytesV, V.cells, V.stays, Orc.nothing, h0, h3, h6, h7, len_encL, hlt', hidx, load_encT])
            refine effR_new fun id8 σ1 s1 a8 f8 => ?_
            have fin : ∀ ob, SubStore σ (upd σ1 id8 ob) := fun ob => (hsub.trans s1).updK (hsub.none f8)
            simp -implicitDefEqProofs only [BB, Int.reduceEq, Int.reduceNe, Int.reduceLT, Int.reduceLE, Int.reduceGT, Int.reduceGE, Nat.reduceEqDiff, Nat.reduceAdd, Nat.reduceMul, Nat.reduceLeDiff, Nat.reduceSub, Nat.reduceLT, Nat.reduceBEq, ↓reduceIte, reduceCtorEq, ← decide_not, okind, vpre, vpure, intBin, intPre, strBin, strPre, popTo, argSlots, fldV, fldAV, subCells, idxVV, idxAAV, idxSV, sliceV, boundV, szIs, storeOp, storeS, setRowV, eff, extV, buildV, splice, eqSV, fitsL, eqCells, eqCell, minmaxV, capV, binBV, nilCheckV, bytesV, a8, encT_cells, encT_stays, V.cells_agg, V.cells_int, V.cells_nils, V.cells_own, V.cells_sl, V.cells_str, V.cells_bool, V.cells_fn, V.cells_ptr, V.cells_rp, V.stays_agg, V.stays_int, V.stays_nils, V.stays_own, V.stays_sl, V.stays_str, V.stays_bool, V.stays_fn, V.stays_ptr, V.stays_rp, h0, h3, h6, h7, w1, w2, hsl]
            refine Runs.pcall rfl rfl rfl (hnc _) ?_
            (refine Runs.of_step Orc.nothing 300 ?_; simp -implicitDefEqProofs only [BB, Int.reduceEq, Int.reduceNe, Int.reduceLT, Int.reduceLE, Int.reduceGT, Int.reduceGE, Nat.reduceEqDiff, Nat.reduceAdd, Nat.reduceMul, Nat.reduceLeDiff, Nat.reduceSub, Nat.reduceLT, Nat.reduceBEq, ↓reduceIte, reduceCtorEq, ← decide_not, okind, vpre, vpure, intBin, intPre, strBin, strPre, popTo, argSlots, fldV, fldAV, subCells, idxVV, idxAAV, idxSV, sliceV, sliceSV, boundV, szIs, storeOp, storeS, setRowV, eff, extV, buildV, splice, eqSV, fitsL, eqCells, eqCell, minmaxV, capV, binBV, nilCheckV, bytesV, Orc.nothing, a8, encT_cells, encT_stays, V.cells_agg, V.cells_int, V.cells_nils, V.cells_own, V.cells_sl, V.cells_str, V.cells_bool, V.cells_fn, V.cells_ptr, V.cells_rp, V.stays_agg, V.stays_int, V.stays_nils, V.stays_own, V.stays_sl, V.stays_str, V.stays_bool, V.stays_fn, V.stays_ptr, V.stays_rp, h0, h3, h6, h7, w1, w2])
            refine Runs.pcall rfl rfl rfl (hsz _) ?_
            by_cases hi0 : i = 0
            · have z1 : ((i : Int) > 0) = False := by simp; omega
              (refine Runs.of_step Orc.nothing 300 ?_; simp -implicitDefEqProofs only [BB, Int.reduceEq, Int.reduceNe, Int.reduceLT, Int.reduceLE, Int.reduceGT, Int.reduceGE, Nat.reduceEqDiff, Nat.reduceAdd, Nat.reduceMul, Nat.reduceLeDiff, Nat.reduceSub, Nat.reduceLT, Nat.reduceBEq, ↓reduceIte, reduceCtorEq, ← decide_not, okind, vpre, vpure, intBin, intPre, strBin, strPre, popTo, argSlots, fldV, fldAV, subCells, idxVV, idxAAV, idxSV, sliceV, sliceSV, boundV, szIs, storeOp, storeS, setRowV, eff, extV, buildV, splice, eqSV, fitsL, eqCells, eqCell, minmaxV, capV, binBV, nilCheckV, bytesV, Orc.nothing, a8, encT_cells, encT_stays, V.cells_agg, V.cells_int, V.cells_nils, V.cells_own, V.cells_sl, V.cells_str, V.cells_bool, V.cells_fn, V.cells_ptr, V.cells_rp, V.stays_agg, V.stays_int, V.stays_nils, V.stays_own, V.stays_sl, V.stays_str, V.stays_bool, V.stays_fn, V.stays_ptr, V.stays_rp, h0, h3, h6, h7, w3, z1, r1, hin])
              exact ⟨_, by omega, i + 1, j + n, false, by omega, rfl, hc2, hpn2, fin _, by simp [h0, h3]⟩
            · have z1 : ((i : Int) > 0) = True := by simp; omega
              (refine Runs.of_step Orc.nothing 300 ?_; simp -implicitDefEqProofs only [BB, Int.reduceEq, Int.reduceNe, Int.reduceLT, Int.reduceLE, Int.reduceGT, Int.reduceGE, Nat.reduceEqDiff, Nat.reduceAdd, Nat.reduceMul, Nat.reduceLeDiff, Nat.reduceSub, Nat.reduceLT, Nat.reduceBEq, ↓reduceIte, reduceCtorEq, ← decide_not, okind, vpre, vpure, intBin, intPre, strBin, strPre, popTo, argSlots, fldV, fldAV, subCells, idxVV, idxAAV, idxSV, sliceV, sliceSV, boundV, szIs, storeOp, storeS, setRowV, eff, extV, buildV, splice, eqSV, fitsL, eqCells, eqCell, minmaxV, capV, binBV, nilCheckV, bytesV, Orc.nothing, a8, encT_cells, encT_stays, V.cells_agg, V.cells_int, V.cells_nils, V.cells_own, V.cells_sl, V.cells_str, V.cells_bool, V.cells_fn, V.cells_ptr, V.cells_rp, V.stays_agg, V.stays_int, V.stays_nils, V.stays_own, V.stays_sl, V.stays_str, V.stays_bool, V.stays_fn, V.stays_ptr, V.stays_rp, h0, h3, h6, h7, w3, z1, r1, hin])
              exact ⟨_, by omega, i + 1, j + n, false, by omega, rfl, hc2, hpn2, fin _, by simp [h0, h3]⟩
          · have hsz := size_num (s := s) (by omega) hjl (by omega) hnb
            rw [← hn] at hsz
            have htot : numR (digsAt s j) ≤ 1099511627776 := by
              unfold numBad at hnb
              simp only [Bool.or_eq_false_iff, decide_eq_false_iff_not] at hnb
              omega
            have w4 : (((numR (digsAt s j) : Nat) : Int) < 0) = False := by simp
            have w5 : (((numR (digsAt s j) : Nat) : Int) > 1099511627776) = False := by simp; omega
            have hfin : decide (l[i].kind = 2) = true := by rw [hx]; rfl
            rw [hfin] at hc2 hpn2
            generalize l[i] = x at *
            subst hx
            generalize ((numR (digsAt s j) : Nat) : Int) = r at *
            (refine Runs.of_step Orc.nothing 300 ?_; simp -implicitDefEqProofs only [BB, Int.reduceEq, Int.reduceNe, Int.reduceLT, Int.reduceLE, Int.reduceGT, Int.reduceGE, Nat.reduceEqDiff, Nat.reduceAdd, Nat.reduceMul, Nat.reduceLeDiff, Nat.reduceSub, Nat.reduceLT, Nat.reduceBEq, ↓reduceIte, reduceCtorEq, ← decide_not, okind, vpre, vpure, intBin, intPre, strBin, strPre, popTo, argSlots, fldV, fldAV, subCells, idxVV, idxAAV, idxSV, sliceV, sliceSV, boundV, szIs, storeOp, storeS, setRowV, eff, extV, buildV, splice, eqSV, fitsL, eqCells, eqCell, minmaxV, capV, binBV, nilCheckV, bytesV, V.cells, V.stays, Orc.nothing, h0, h3, h6, h7, len_encL, hlt', hidx, load_encT])
            refine effR_new fun id8 σ1 s1 a8 f8 => ?_
            have fin : ∀ ob, SubStore σ (upd σ1 id8 ob) := fun ob => (hsub.trans s1).updK (hsub.none f8)
            simp -implicitDefEqProofs only [BB, Int.reduceEq, Int.reduceNe, Int.reduceLT, Int.reduceLE, Int.reduceGT, Int.reduceGE, Nat.reduceEqDiff, Nat.reduceAdd, Nat.reduceMul, Nat.reduceLeDiff, Nat.reduceSub, Nat.reduceLT, Nat.reduceBEq, ↓reduceIte, reduceCtorEq, ← decide_not, okind, vpre, vpure, intBin, intPre, strBin, strPre, popTo, argSlots, fldV, fldAV, subCells, idxVV, idxAAV, idxSV, sliceV, boundV, szIs, storeOp, storeS, setRowV, eff, extV, buildV, splice, eqSV, fitsL, eqCells, eqCell, minmaxV, capV, binBV, nilCheckV, bytesV, a8, encT_cells, encT_stays, V.cells_agg, V.cells_int, V.cells_nils, V.cells_own, V.cells_sl, V.cells_str, V.cells_bool, V.cells_fn, V.cells_ptr, V.cells_rp, V.stays_agg, V.stays_int, V.stays_nils, V.stays_own, V.stays_sl, V.stays_str, V.stays_bool, V.stays_fn, V.stays_ptr, V.stays_rp, h0, h3, h6, h7, w1, w2, w4, w5, hsl]
            refine Runs.pcall rfl rfl rfl (hnc _) ?_
            (refine Runs.of_step Orc.nothing 300 ?_; simp -implicitDefEqProofs only [BB, Int.reduceEq, Int.reduceNe, Int.reduceLT, Int.reduceLE, Int.reduceGT, Int.reduceGE, Nat.reduceEqDiff, Nat.reduceAdd, Nat.reduceMul, Nat.reduceLeDiff, Nat.reduceSub, Nat.reduceLT, Nat.reduceBEq, ↓reduceIte, reduceCtorEq, ← decide_not, okind, vpre, vpure, intBin, intPre, strBin, strPre, popTo, argSlots, fldV, fldAV, subCells, idxVV, idxAAV, idxSV, sliceV, sliceSV, boundV, szIs, storeOp, storeS, setRowV, eff, extV, buildV, splice, eqSV, fitsL, eqCells, eqCell, minmaxV, capV, binBV, nilCheckV, bytesV, Orc.nothing, a8, encT_cells, encT_stays, V.cells_agg, V.cells_int, V.cells_nils, V.cells_own, V.cells_sl, V.cells_str, V.cells_bool, V.cells_fn, V.cells_ptr, V.cells_rp, V.stays_agg, V.stays_int, V.stays_nils, V.stays_own, V.stays_sl, V.stays_str, V.stays_bool, V.stays_fn, V.stays_ptr, V.stays_rp, h0, h3, h6, h7, w1, w2, w4, w5])
            refine Runs.pcall rfl rfl rfl (hsz _) ?_
            by_cases hi0 : i = 0
            · have z1 : ((i : Int) > 0) = False := by simp; omega
              (refine Runs.of_step Orc.nothing 300 ?_; simp -implicitDefEqProofs only [BB, Int.reduceEq, Int.reduceNe, Int.reduceLT, Int.reduceLE, Int.reduceGT, Int.reduceGE, Nat.reduceEqDiff, Nat.reduceAdd, Nat.reduceMul, Nat.reduceLeDiff, Nat.reduceSub, Nat.reduceLT, Nat.reduceBEq, ↓reduceIte, reduceCtorEq, ← decide_not, okind, vpre, vpure, intBin, intPre, strBin, strPre, popTo, argSlots, fldV, fldAV, subCells, idxVV, idxAAV, idxSV, sliceV, sliceSV, boundV, szIs, storeOp, storeS, setRowV, eff, extV, buildV, splice, eqSV, fitsL, eqCells, eqCell, minmaxV, capV, binBV, nilCheckV, bytesV, Orc.nothing, a8, encT_cells, encT_stays, V.cells_agg, V.cells_int, V.cells_nils, V.cells_own, V.cells_sl, V.cells_str, V.cells_bool, V.cells_fn, V.cells_ptr, V.cells_rp, V.stays_agg, V.stays_int, V.stays_nils, V.stays_own, V.stays_sl, V.stays_str, V.stays_bool, V.stays_fn, V.stays_ptr, V.stays_rp, h0, h3, h6, h7, w3, z1, r1, hin])
              exact ⟨_, by omega, i + 1, j + n, true, by omega, rfl, hc2, hpn2, fin _, by simp [h0, h3]⟩
            · have z1 : ((i : Int) > 0) = True := by simp; omega
              obtain ⟨k, rfl⟩ : ∃ k, i = k + 1 := ⟨i - 1, by omega⟩
              have hkl : k < l.length := by omega
              have hidk := idx_encL (σ := upd σ1 id8 ⟨32, 4, [encT ⟨2, 0, r, j⟩]⟩) hkl
              have e1 : (((k + 1 : Nat) : Int) - 1) = (k : Int) := by omega
              have hpk := hpn k rfl hkl
              have hck := cells_kind l[k]
              have hrk : inR .i64 (k : Int) := inR_i64 (by omega) (by omega)
              generalize l[k] = y at *
              by_cases hy : y.kind = 2
              · rw [decide_eq_true hy] at hpk
                have z2 : (y.kind = 2) = True := by simp [hy]
                have z3 : ((j : Int) = (e : Int)) = False := by simp; intro g; exact hadj ⟨rfl, hpk, by omega⟩
                (refine Runs.of_step Orc.nothing 300 ?_; simp -implicitDefEqProofs only [BB, Int.reduceEq, Int.reduceNe, Int.reduceLT, Int.reduceLE, Int.reduceGT, Int.reduceGE, Nat.reduceEqDiff, Nat.reduceAdd, Nat.reduceMul, Nat.reduceLeDiff, Nat.reduceSub, Nat.reduceLT, Nat.reduceBEq, ↓reduceIte, reduceCtorEq, ← decide_not, okind, vpre, vpure, intBin, intPre, strBin, strPre, popTo, argSlots, fldV, fldAV, subCells, idxVV, idxAAV, idxSV, sliceV, sliceSV, boundV, szIs, storeOp, storeS, setRowV, eff, extV, buildV, splice, eqSV, fitsL, eqCells, eqCell, minmaxV, capV, binBV, nilCheckV, bytesV, Orc.nothing, a8, encT_cells, encT_stays, V.cells_agg, V.cells_int, V.cells_nils, V.cells_own, V.cells_sl, V.cells_str, V.cells_bool, V.cells_fn, V.cells_ptr, V.cells_rp, V.stays_agg, V.stays_int, V.stays_nils, V.stays_own, V.stays_sl, V.stays_str, V.stays_bool, V.stays_fn, V.stays_ptr, V.stays_rp, h0, h3, h6, h7, w3, z1, z2, z3, e1, hrk, hidk, hck, r1, hin])
                exact ⟨_, by omega, k + 1 + 1, j + n, true, by omega, rfl, hc2, hpn2, fin _, by simp [h0, h3]⟩
              · have z2 : (y.kind = 2) = False := by simp [hy]
                (refine Runs.of_step Orc.nothing 300 ?_; simp -implicitDefEqProofs only [BB, Int.reduceEq, Int.reduceNe, Int.reduceLT, Int.reduceLE, Int.reduceGT, Int.reduceGE, Nat.reduceEqDiff, Nat.reduceAdd, Nat.reduceMul, Nat.reduceLeDiff, Nat.reduceSub, Nat.reduceLT, Nat.reduceBEq, ↓reduceIte, reduceCtorEq, ← decide_not, okind, vpre, vpure, intBin, intPre, strBin, strPre, popTo, argSlots, fldV, fldAV, subCells, idxVV, idxAAV, idxSV, sliceV, sliceSV, boundV, szIs, storeOp, storeS, setRowV, eff, extV, buildV, splice, eqSV, fitsL, eqCells, eqCell, minmaxV, capV, binBV, nilCheckV, bytesV, Orc.nothing, a8, encT_cells, encT_stays, V.cells_agg, V.cells_int, V.cells_nils, V.cells_own, V.cells_sl, V.cells_str, V.cells_bool, V.cells_fn, V.cells_ptr, V.cells_rp, V.stays_agg, V.stays_int, V.stays_nils, V.stays_own, V.stays_sl, V.stays_str, V.stays_bool, V.stays_fn, V.stays_ptr, V.stays_rp, h0, h3, h6, h7, w3, z1, z2, e1, hrk, hidk, hck, r1, hin])
                exact ⟨_, by omega, k + 1 + 1, j + n, true, by omega, rfl, hc2, hpn2, fin _, by simp [h0, h3]⟩
        · obtain rfl : i = l.length := by omega
          have hlt' : ((l.length : Int) < (l.length : Int)) = False := by simp
          rw [List.drop_length] at hc
          obtain ⟨hel, hc⟩ := hc
          have hsl : sliceSV (.str s) (some (vI e)) none = some (.str (s.drop e)) := by
            simp only [sliceSV, boundV]
            rw [if_pos (by omega), show ((s.length : Int)).toNat - ((e : Int)).toNat = s.length - e by omega, Int.toNat_natCast, List.take_of_length_le (by simp)]
          have hnc := nothing_c (s.drop e) (by simp; omega)
          rw [hc] at hnc
          (refine Runs.of_step Orc.nothing 300 ?_; simp -implicitDefEqProofs only [BB, Int.reduceEq, Int.reduceNe, Int.reduceLT, Int.reduceLE, Int.reduceGT, Int.reduceGE, Nat.reduceEqDiff, Nat.reduceAdd, Nat.reduceMul, Nat.reduceLeDiff, Nat.reduceSub, Nat.reduceLT, Nat.reduceBEq, ↓reduceIte, reduceCtorEq, ← decide_not, okind, vpre, vpure, intBin, intPre, strBin, strPre, popTo, argSlots, fldV, fldAV, subCells, idxVV, idxAAV, idxSV, sliceV, boundV, szIs, storeOp, storeS, setRowV, eff, extV, buildV, splice, eqSV, fitsL, eqCells, eqCell, minmaxV, capV, binBV, nilCheckV, bytesV, V.cells, V.stays, Orc.nothing, h0, h3, h6, h7, len_encL, hlt', hsl])
          refine Runs.pcall rfl rfl rfl (hnc _) ?_
          (refine Runs.of_step Orc.nothing 300 ?_; simp -implicitDefEqProofs only [BB, Int.reduceEq, Int.reduceNe, Int.reduceLT, Int.reduceLE, Int.reduceGT, Int.reduceGE, Nat.reduceEqDiff, Nat.reduceAdd, Nat.reduceMul, Nat.reduceLeDiff, Nat.reduceSub, Nat.reduceLT, Nat.reduceBEq, ↓reduceIte, reduceCtorEq, ← decide_not, okind, vpre, vpure, intBin, intPre, strBin, strPre, popTo, argSlots, fldV, fldAV, subCells, idxVV, idxAAV, idxSV, sliceV, sliceSV, boundV, szIs, storeOp, storeS, setRowV, eff, extV, buildV, splice, eqSV, fitsL, eqCells, eqCell, minmaxV, capV, binBV, nilCheckV, bytesV, V.cells, V.stays, Orc.nothing])
          refine Runs.pcall rfl rfl rfl (awake6_c _) ?_
          (refine Runs.of_step Orc.nothing 300 ?_; simp -implicitDefEqProofs only [BB, Int.reduceEq, Int.reduceNe, Int.reduceLT, Int.reduceLE, Int.reduceGT, Int.reduceGE, Nat.reduceEqDiff, Nat.reduceAdd, Nat.reduceMul, Nat.reduceLeDiff, Nat.reduceSub, Nat.reduceLT, Nat.reduceBEq, ↓reduceIte, reduceCtorEq, ← decide_not, okind, vpre, vpure, intBin, intPre, strBin, strPre, popTo, argSlots, fldV, fldAV, subCells, idxVV, idxAAV, idxSV, sliceV, sliceSV, boundV, szIs, storeOp, storeS, setRowV, eff, extV, buildV, splice, eqSV, fitsL, eqCells, eqCell, minmaxV, capV, binBV, nilCheckV, bytesV, V.cells, V.stays, Orc.nothing])
          exact RetV.pure hsub rfl
end Go.Vc
