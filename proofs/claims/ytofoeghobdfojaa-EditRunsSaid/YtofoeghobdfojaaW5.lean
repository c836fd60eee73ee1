/- Part 5 of the library of this proof. -/
import Derived.Test.YtofoeghobdfojaaW4
import Derived.Below
import Derived.RangeFuncNested
import Derived.RangeFuncBound
import Derived.RangeFuncCalls
import Derived.RangeFuncLeaves
import Derived.Shelf.Abstract
import Derived.Shelf.RegionOpen
import Derived.WalkKit
import Derived.OwnWalkIn
import Derived.TacticsInMore
import Derived.LoopNIn
import Derived.LoopIn
set_option linter.all false
namespace Go.Vc
open Go.Proofs
set_option maxRecDepth 100000 in
theorem of_c (l : List Nd) (hl : Fine l) (hb : isB l = true) : PFun Try.prog 93 [encNs l] (.agg [encNs l]) := fun σ => by
  refine Contract.of_runs Try.func93 e93 k93 (by simp [c93]) ?_
  refine Runs.mix 3 ?_
  (refine Runs.of_step Orc.nothing 300 ?_; simp -implicitDefEqProofs only [BB, Int.reduceEq, Int.reduceNe, Int.reduceLT, Int.reduceLE, Int.reduceGT, Int.reduceGE, Nat.reduceEqDiff, Nat.reduceAdd, Nat.reduceMul, Nat.reduceLeDiff, Nat.reduceSub, Nat.reduceLT, Nat.reduceBEq, ↓reduceIte, reduceCtorEq, ← decide_not, okind, vpre, vpure, intBin, intPre, strBin, strPre, popTo, argSlots, fldV, fldAV, subCells, idxVV, idxAAV, idxSV, sliceV, sliceSV, boundV, szIs, storeOp, storeS, setRowV, eff, extV, buildV, splice, eqSV, fitsL, eqCells, eqCell, minmaxV, capV, binBV, nilCheckV, bytesV, V.cells, V.stays, Orc.nothing, c93])
  refine effR_new fun id2 σ1 s1 a2 f2 => ?_
  simp -implicitDefEqProofs only [BB, Int.reduceEq, Int.reduceNe, Int.reduceLT, Int.reduceLE, Int.reduceGT, Int.reduceGE, Nat.reduceEqDiff, Nat.reduceAdd, Nat.reduceMul, Nat.reduceLeDiff, Nat.reduceSub, Nat.reduceLT, Nat.reduceBEq, ↓reduceIte, reduceCtorEq, ← decide_not, okind, vpre, vpure, intBin, intPre, strBin, strPre, popTo, argSlots, fldV, fldAV, subCells, idxVV, idxAAV, idxSV, sliceV, sliceSV, boundV, szIs, storeOp, storeS, setRowV, eff, extV, buildV, splice, eqSV, fitsL, eqCells, eqCell, minmaxV, capV, binBV, nilCheckV, bytesV, V.cells, V.stays, a2]
  refine Runs.pcall rfl rfl rfl (isv_c l hl _) ?_
  (refine Runs.of_step Orc.nothing 300 ?_; simp -implicitDefEqProofs only [BB, Int.reduceEq, Int.reduceNe, Int.reduceLT, Int.reduceLE, Int.reduceGT, Int.reduceGE, Nat.reduceEqDiff, Nat.reduceAdd, Nat.reduceMul, Nat.reduceLeDiff, Nat.reduceSub, Nat.reduceLT, Nat.reduceBEq, ↓reduceIte, reduceCtorEq, ← decide_not, okind, vpre, vpure, intBin, intPre, strBin, strPre, popTo, argSlots, fldV, fldAV, subCells, idxVV, idxAAV, idxSV, sliceV, sliceSV, boundV, szIs, storeOp, storeS, setRowV, eff, extV, buildV, splice, eqSV, fitsL, eqCells, eqCell, minmaxV, capV, binBV, nilCheckV, bytesV, V.cells, V.stays, Orc.nothing, hb, a2, encNs])
  refine RetV.pure (s1.updK f2) rfl
set_option maxRecDepth 100000 in
theorem has9_c (l : List Nd) (a : Int) : PFun Try.prog 94 [encNs l, vI a] (.bool (hasI l a)) := fun σ => by
  refine Contract.of_runs Try.func94 e94 k94 (by simp [c94]) ?_
  refine Runs.mix 6 ?_
  (refine Runs.of_step Orc.nothing 300 ?_; simp -implicitDefEqProofs only [BB, effR_some, effD_some, Int.reduceEq, Int.reduceNe, Int.reduceLT, Int.reduceLE, Int.reduceGT, Int.reduceGE, Nat.reduceEqDiff, Nat.reduceAdd, Nat.reduceMul, Nat.reduceLeDiff, Nat.reduceSub, Nat.reduceLT, Nat.reduceBEq, ↓reduceIte, reduceCtorEq, ← decide_not, okind, vpre, vpure, intBin, intPre, strBin, strPre, popTo, argSlots, fldV, fldAV, subCells, idxVV, idxAAV, idxSV, sliceV, sliceSV, boundV, szIs, storeOp, storeS, setRowV, eff, extV, buildV, splice, eqSV, fitsL, eqCells, eqCell, minmaxV, capV, binBV, nilCheckV, bytesV, V.cells, V.stays, Orc.nothing, c94, lenV_encNs])
  refine And.intro (fun h => ?_) (fun h => ?_)
  · refine RetV.same ?_
    simp [hasI]; omega
  · refine RetV.same ?_
    simp [hasI]; omega
set_option maxRecDepth 100000 in
theorem parent9_c (l : List Nd) (hl : Fine l) (hb : isB l = true) (a : Nat) (ha : a < l.length) : PFun Try.prog 107 [encNs l, vI a] (vI (parR l a)) := fun σ => by
  have hl1 := hl.1
  refine Contract.of_runs Try.func107 e107 k107 (by simp [c107]) ?_
  refine Runs.mix 6 ?_
  (refine Runs.of_step Orc.nothing 300 ?_; simp -implicitDefEqProofs only [BB, effR_some, effD_some, Int.reduceEq, Int.reduceNe, Int.reduceLT, Int.reduceLE, Int.reduceGT, Int.reduceGE, Nat.reduceEqDiff, Nat.reduceAdd, Nat.reduceMul, Nat.reduceLeDiff, Nat.reduceSub, Nat.reduceLT, Nat.reduceBEq, ↓reduceIte, reduceCtorEq, ← decide_not, okind, vpre, vpure, intBin, intPre, strBin, strPre, popTo, argSlots, fldV, fldAV, subCells, idxVV, idxAAV, idxSV, sliceV, sliceSV, boundV, szIs, storeOp, storeS, setRowV, eff, extV, buildV, splice, eqSV, fitsL, eqCells, eqCell, minmaxV, capV, binBV, nilCheckV, bytesV, V.cells, V.stays, Orc.nothing, c107])
  refine ⟨inR_i64 (by omega) (by omega), ?_⟩
  refine Runs.loop (fun m st => ∃ (k : Nat), k ≤ a ∧ m = k ∧ parR l a = parD l a k ∧ st.σ = σ ∧ st.s 0 = encNs l ∧ st.s 1 = vI a ∧ st.s 5 = vI ((k : Int) - 1)) a ?_ ?_
  · exact ⟨a, by omega, rfl, rfl, rfl, rfl, rfl, rfl⟩
  · rintro m ⟨s, σ'⟩ ⟨k, hk, rfl, heq, hσ, h0, h1, h5⟩
    simp only at hσ h0 h1 h5
    subst hσ
    refine Runs.mix 6 ?_
    (refine Runs.of_step Orc.nothing 300 ?_; simp -implicitDefEqProofs only [BB, effR_some, effD_some, Int.reduceEq, Int.reduceNe, Int.reduceLT, Int.reduceLE, Int.reduceGT, Int.reduceGE, Nat.reduceEqDiff, Nat.reduceAdd, Nat.reduceMul, Nat.reduceLeDiff, Nat.reduceSub, Nat.reduceLT, Nat.reduceBEq, ↓reduceIte, reduceCtorEq, ← decide_not, okind, vpre, vpure, intBin, intPre, strBin, strPre, popTo, argSlots, fldV, fldAV, subCells, idxVV, idxAAV, idxSV, sliceV, sliceSV, boundV, szIs, storeOp, storeS, setRowV, eff, extV, buildV, splice, eqSV, fitsL, eqCells, eqCell, minmaxV, capV, binBV, nilCheckV, bytesV, V.cells, V.stays, Orc.nothing, h0, h1, h5])
    refine And.intro (fun h => ?_) (fun h => ?_)
    · obtain ⟨k, rfl⟩ : ∃ j, m = j + 1 := ⟨m - 1, by omega⟩
      have e1 : ((k + 1 : Nat) : Int) - 1 = k := by omega
      have hlt : k < l.length := by omega
      have hsz := szI_bound hb hlt
      have hse := szI_eq hlt
      have hx := idxAV_encNs (σ := σ') hlt
      simp -implicitDefEqProofs only [BB, effR_some, effD_some, Int.reduceEq, Int.reduceNe, Int.reduceLT, Int.reduceLE, Int.reduceGT, Int.reduceGE, Nat.reduceEqDiff, Nat.reduceAdd, Nat.reduceMul, Nat.reduceLeDiff, Nat.reduceSub, Nat.reduceLT, Nat.reduceBEq, ↓reduceIte, reduceCtorEq, ← decide_not, okind, vpre, vpure, intBin, intPre, strBin, strPre, popTo, argSlots, fldV, fldAV, subCells, idxVV, idxAAV, idxSV, sliceV, sliceSV, boundV, szIs, storeOp, storeS, setRowV, eff, extV, buildV, splice, eqSV, fitsL, eqCells, eqCell, minmaxV, capV, binBV, nilCheckV, bytesV, V.cells, V.stays, e1, hx, Nd.cells, h0, h1, h5]
      rw [← hse]
      refine ⟨inR_i64 (by omega) (by omega), And.intro (fun hc => ?_) (fun hc => ?_)⟩
      · refine RetV.same ?_
        rw [heq, parD, if_pos]
        simp only [holdsI, Bool.and_eq_true, decide_eq_true_eq, hasI]
        simp
        omega
      · refine ⟨inR_i64 (by omega) (by omega), _, ?_, k, by omega, rfl, ?_, rfl⟩
        · omega
        · rw [heq, parD, if_neg]
          simp only [holdsI, Bool.and_eq_true, decide_eq_true_eq, hasI]
          simp
          omega
    · have hk0 : m = 0 := by omega
      subst hk0
      refine RetV.same ?_
      rw [heq]; rfl
set_option maxRecDepth 100000 in
theorem kids9_c (l : List Nd) (hl : Fine l) (hb : isB l = true) (a : Int) (ha : a = -1 ∨ hasI l a = true) (σ : Store) :
    Contract Try.prog 73 [encNs l, vI a] σ fun r σ' => SubStore σ σ' ∧ OutV σ σ' 3 1 r ((kidsR l a).map vI) := by
  have hl1 := hl.1
  have hrows : rowsB l 0 l.length = true := by simp only [isB, Bool.and_eq_true] at hb; exact hb.2
  refine Contract.of_runs Try.func73 e73 k73 (by simp [c73]) ?_
  refine Runs.mix 9 ?_
  (refine Runs.of_step Orc.nothing 300 ?_; simp -implicitDefEqProofs only [BB, Int.reduceEq, Int.reduceNe, Int.reduceLT, Int.reduceLE, Int.reduceGT, Int.reduceGE, Nat.reduceEqDiff, Nat.reduceAdd, Nat.reduceMul, Nat.reduceLeDiff, Nat.reduceSub, Nat.reduceLT, Nat.reduceBEq, ↓reduceIte, reduceCtorEq, ← decide_not, okind, vpre, vpure, intBin, intPre, strBin, strPre, popTo, argSlots, fldV, fldAV, subCells, idxVV, idxAAV, idxSV, sliceV, sliceSV, boundV, szIs, storeOp, storeS, setRowV, eff, extV, buildV, splice, eqSV, fitsL, eqCells, eqCell, minmaxV, capV, binBV, nilCheckV, bytesV, V.cells, V.stays, Orc.nothing, c73])
  refine Runs.pcall rfl rfl rfl (of_c l hl hb _) ?_
  (refine Runs.of_step Orc.nothing 300 ?_; simp -implicitDefEqProofs only [BB, Int.reduceEq, Int.reduceNe, Int.reduceLT, Int.reduceLE, Int.reduceGT, Int.reduceGE, Nat.reduceEqDiff, Nat.reduceAdd, Nat.reduceMul, Nat.reduceLeDiff, Nat.reduceSub, Nat.reduceLT, Nat.reduceBEq, ↓reduceIte, reduceCtorEq, ← decide_not, okind, vpre, vpure, intBin, intPre, strBin, strPre, popTo, argSlots, fldV, fldAV, subCells, idxVV, idxAAV, idxSV, sliceV, sliceSV, boundV, szIs, storeOp, storeS, setRowV, eff, extV, buildV, splice, eqSV, fitsL, eqCells, eqCell, minmaxV, capV, binBV, nilCheckV, bytesV, V.cells, V.stays, Orc.nothing, encNs_cells, encNs_stays])
  refine effR_new fun id5 σ1 s1 a5 f5 => ?_
  have hfold : V.sl 20 (l.map encN) = encNs l := rfl
  simp -implicitDefEqProofs only [BB, Int.reduceEq, Int.reduceNe, Int.reduceLT, Int.reduceLE, Int.reduceGT, Int.reduceGE, Nat.reduceEqDiff, Nat.reduceAdd, Nat.reduceMul, Nat.reduceLeDiff, Nat.reduceSub, Nat.reduceLT, Nat.reduceBEq, ↓reduceIte, reduceCtorEq, ← decide_not, okind, vpre, vpure, intBin, intPre, strBin, strPre, popTo, argSlots, fldV, fldAV, subCells, idxVV, idxAAV, idxSV, sliceV, sliceSV, boundV, szIs, storeOp, storeS, setRowV, eff, extV, buildV, splice, eqSV, fitsL, eqCells, eqCell, minmaxV, capV, binBV, nilCheckV, bytesV, V.cells, V.stays, a5, hfold, encNs_cells, encNs_stays, lenV_encNs]
  refine And.intro (fun h => ?gA) (fun h => ?gB)
  case' gA =>
    have hh : hasI l a = true := by rcases ha with rfl | ha; exact absurd rfl h; exact ha
    obtain ⟨p, rfl⟩ : ∃ p : Nat, a = p := ⟨a.toNat, by have := hasI_iff.1 hh; omega⟩
    have hp : p < l.length := by have := hasI_iff.1 hh; omega
    have hx := idxAV_encNs (σ := σ1) hp
    obtain ⟨z1, z2⟩ := szI_bound hb hp
    have hse := szI_eq hp
    have hk := kidsR_in hb hp
    obtain ⟨z3, _⟩ := rowsB_ends (Nat.le_refl _) hrows (Nat.zero_le p) hp
    have hin := rowsB_inner l (l.length + 1) 0 l.length (by omega) (Nat.le_refl _) hrows p (by omega) hp hp
    rw [← hse] at hin
    have hz : (szI l p) = ((szI l p).toNat : Int) := by omega
    refine Runs.pcall rfl rfl rfl (has9_c l _ _) ?_
    (refine Runs.of_step Orc.nothing 300 ?_; simp -implicitDefEqProofs only [BB, Int.reduceEq, Int.reduceNe, Int.reduceLT, Int.reduceLE, Int.reduceGT, Int.reduceGE, Nat.reduceEqDiff, Nat.reduceAdd, Nat.reduceMul, Nat.reduceLeDiff, Nat.reduceSub, Nat.reduceLT, Nat.reduceBEq, ↓reduceIte, reduceCtorEq, ← decide_not, okind, vpre, vpure, intBin, intPre, strBin, strPre, popTo, argSlots, fldV, fldAV, subCells, idxVV, idxAAV, idxSV, sliceV, sliceSV, boundV, szIs, storeOp, storeS, setRowV, eff, extV, buildV, splice, eqSV, fitsL, eqCells, eqCell, minmaxV, capV, binBV, nilCheckV, bytesV, V.cells, V.stays, Orc.nothing, hh, idxAV_encNs hp, Nd.cells, a5])
    rw [← hse]
    refine ⟨inR_i64 (by omega) (by omega), inR_i64 (by omega) (by omega), ?_⟩
    have hbeg : ∃ a0 e : Nat, e ≤ l.length ∧ a0 ≤ e ∧ rowsB l a0 e = true ∧ kidsR l p = kidsW l a0 e ∧ (p : Int) + 1 = a0 ∧ (p : Int) + szI l p = e :=
      ⟨p + 1, p + (szI l p).toNat, by omega, by omega, hin, hk, by omega, by omega⟩
    obtain ⟨a0, e, he, hae, hr, hk, e1, e2⟩ := hbeg
    rw [e1, e2]
  case' gB =>
    have ha1 : a = -1 := by omega
    subst ha1
    have hbeg : ∃ a0 e : Nat, e ≤ l.length ∧ a0 ≤ e ∧ rowsB l a0 e = true ∧ kidsR l (-1) = kidsW l a0 e ∧ (0 : Int) = a0 ∧ (l.length : Int) = e :=
      ⟨0, l.length, by omega, by omega, hrows, kidsR_top hb, by omega, by omega⟩
    obtain ⟨a0, e, he, hae, hr, hk, e1, e2⟩ := hbeg
  case gA | gB =>
    refine Runs.loop (fun m st => ∃ (b : Nat) (out : List Int), a0 ≤ b ∧ b ≤ e ∧ m = e - b ∧ rowsB l b e = true ∧ kidsW l a0 e = out ++ kidsW l b e ∧ out.length ≤ b - a0 ∧ SubStore σ st.σ ∧ OutV σ st.σ 3 1 (st.s 8) (out.map vI) ∧ st.s 0 = encNs l ∧ st.s 6 = vI b ∧ st.s 7 = vI e) (e - a0) ?_ ?_
    · exact ⟨a0, [], by omega, by omega, rfl, hr, rfl, by simp, s1.updK f5, OutV.start, rfl, by first | rfl | exact congrArg vI e1, by first | rfl | exact congrArg vI e2⟩
    · rintro m ⟨s, σ'⟩ ⟨b, out, hab, hbe, rfl, hrb, heq, hlen, hsub, hout, h0, h6, h7⟩
      simp only at hsub hout h0 h6 h7
      refine Runs.mix 9 ?_
      (refine Runs.of_step Orc.nothing 300 ?_; simp -implicitDefEqProofs only [BB, Int.reduceEq, Int.reduceNe, Int.reduceLT, Int.reduceLE, Int.reduceGT, Int.reduceGE, Nat.reduceEqDiff, Nat.reduceAdd, Nat.reduceMul, Nat.reduceLeDiff, Nat.reduceSub, Nat.reduceLT, Nat.reduceBEq, ↓reduceIte, reduceCtorEq, ← decide_not, okind, vpre, vpure, intBin, intPre, strBin, strPre, popTo, argSlots, fldV, fldAV, subCells, idxVV, idxAAV, idxSV, sliceV, sliceSV, boundV, szIs, storeOp, storeS, setRowV, eff, extV, buildV, splice, eqSV, fitsL, eqCells, eqCell, minmaxV, capV, binBV, nilCheckV, bytesV, V.cells, V.stays, Orc.nothing, h0, h6, h7])
      refine And.intro (fun h => ?_) (fun h => ?_)
      · have hlt : b < e := by omega
        have hbl : b < l.length := by omega
        have hse2 := szI_eq hbl
        obtain ⟨y1, y2⟩ := rowsB_ends he hrb (Nat.le_refl b) hlt
        obtain ⟨hr2, _⟩ := rowsB_next he hrb hlt
        have hc := kidsW_cons hlt hbl (by omega)
        refine effD_new fun id1 σ2 s2 a1 f1 => ?_
        obtain ⟨idA, hd, hdel⟩ := hout.dst s2
        have hb2 : (out.length + 1) * 9 ≤ 140737488355328 := by omega
        simp -implicitDefEqProofs only [BB, Int.reduceEq, Int.reduceNe, Int.reduceLT, Int.reduceLE, Int.reduceGT, Int.reduceGE, Nat.reduceEqDiff, Nat.reduceAdd, Nat.reduceMul, Nat.reduceLeDiff, Nat.reduceSub, Nat.reduceLT, Nat.reduceBEq, ↓reduceIte, reduceCtorEq, ← decide_not, okind, vpre, vpure, intBin, intPre, strBin, strPre, popTo, argSlots, fldV, fldAV, subCells, idxVV, idxAAV, idxSV, sliceV, sliceSV, boundV, szIs, storeOp, storeS, setRowV, eff, extV, buildV, splice, eqSV, fitsL, eqCells, eqCell, minmaxV, capV, binBV, nilCheckV, bytesV, V.cells, V.stays, hd, srcOne a1, List.length_map, hb2, h0, h6, h7]
        refine effD_put fun id2 σ3 s3 a2 f2 => ?_
        have hs3 := (hdel σ (SubStore.refl σ) σ2 (hsub.trans s2)).trans s3
        have hx := idxAV_encNs (σ := σ3) hbl
        simp -implicitDefEqProofs only [BB, Int.reduceEq, Int.reduceNe, Int.reduceLT, Int.reduceLE, Int.reduceGT, Int.reduceGE, Nat.reduceEqDiff, Nat.reduceAdd, Nat.reduceMul, Nat.reduceLeDiff, Nat.reduceSub, Nat.reduceLT, Nat.reduceBEq, ↓reduceIte, reduceCtorEq, ← decide_not, okind, vpre, vpure, intBin, intPre, strBin, strPre, popTo, argSlots, fldV, fldAV, subCells, idxVV, idxAAV, idxSV, sliceV, sliceSV, boundV, szIs, storeOp, storeS, setRowV, eff, extV, buildV, splice, eqSV, fitsL, eqCells, eqCell, minmaxV, capV, binBV, nilCheckV, bytesV, V.cells, V.stays, hx, Nd.cells, h0, h6, h7]
        rw [← hse2]
        refine ⟨inR_i64 (by omega) (by omega), _, ?_, b + (szI l b).toNat, out ++ [(b : Int)], by omega, by omega, rfl, hr2, ?_, by simp; omega, hs3, ?_, ?_⟩
        · omega
        · rw [heq, hc, hse2]; simp
        · exact OutV.new (by simp) (by rw [a2]; simp) ((hsub.trans s2).none f2)
        · refine congrArg (V.int .i64) ?_
          omega
      · have hbe2 : b = e := by omega
        subst hbe2
        rw [kidsW_nil (Nat.le_refl _), List.append_nil] at heq
        refine ⟨_, _, SubStore.refl _, Wk.refl (SubStore.refl _) _, hsub, ?_⟩
        rw [hk, heq]
        exact hout
theorem kids9_p (l : List Nd) (hl : Fine l) (hb : isB l = true) (a : Int) (ha : a = -1 ∨ hasI l a = true) : PFun Try.prog 73 [encNs l, vI a] (encI (kidsR l a)) := fun σ =>
  (kids9_c l hl hb a ha σ).weak fun _ _ h => h.2.retv h.1 rfl
end Go.Vc
namespace Go.Vc
open Go.Proofs
def encH (x : Ed) (l : List Nd) : V := .agg [.int .i64 x.kind, .int .i64 x.into, .int .i64 x.pos, .int .i64 x.many, encNs x.sub, .int .i64 x.st.top, .int .i64 x.st.bottom, .int .i64 x.st.padTop, .int .i64 x.st.padBottom, .int .i64 x.st.inset, .int .i64 x.st.orphans, .int .i64 x.st.widows, .int .i64 x.st.head, .int .i64 x.st.before, .int .i64 x.st.after, .int .i64 x.st.inside, .int .i64 x.st.clear, encNs l]
def idxI (a : Int) : List Int → Nat → Int
  | [], _ => -1
  | q :: r, i => if a = q then i else idxI a r (i + 1)
theorem idxI_drop {a : Int} {p : List Int} {i : Nat} (h : i < p.length) : idxI a (p.drop i) i = if a = p[i] then (i : Int) else idxI a (p.drop (i + 1)) (i + 1) := by
  rw [List.drop_eq_getElem_cons h, idxI]
set_option maxRecDepth 100000 in
theorem index_c (p : List Int) (hp : p.length ≤ 1000000000) (a : Int) : PFun Try.prog 72 [encI p, vI a] (vI (idxI a p 0)) := fun σ => by
  refine Contract.of_runs Try.func72 e72 k72 (by simp [c72]) ?_
  refine Runs.mix 9 ?_
  (refine Runs.of_step Orc.nothing 300 ?_; simp -implicitDefEqProofs only [BB, effR_some, effD_some, Int.reduceEq, Int.reduceNe, Int.reduceLT, Int.reduceLE, Int.reduceGT, Int.reduceGE, Nat.reduceEqDiff, Nat.reduceAdd, Nat.reduceMul, Nat.reduceLeDiff, Nat.reduceSub, Nat.reduceLT, Nat.reduceBEq, ↓reduceIte, reduceCtorEq, ← decide_not, okind, vpre, vpure, intBin, intPre, strBin, strPre, popTo, argSlots, fldV, fldAV, subCells, idxVV, idxAAV, idxSV, sliceV, sliceSV, boundV, szIs, storeOp, storeS, setRowV, eff, extV, buildV, splice, eqSV, fitsL, eqCells, eqCell, minmaxV, capV, binBV, nilCheckV, bytesV, V.cells, V.stays, Orc.nothing, c72, lenV_encI])
  refine Runs.loop (fun m st => ∃ (i : Nat), i ≤ p.length ∧ m = p.length - i ∧ idxI a p 0 = idxI a (p.drop i) i ∧ st.σ = σ ∧ st.s 0 = encI p ∧ st.s 1 = vI a ∧ st.s 7 = vI p.length ∧ st.s 8 = vI i) p.length ?_ ?_
  · exact ⟨0, by omega, rfl, rfl, rfl, rfl, rfl, rfl, rfl⟩
  · rintro m ⟨s, σ'⟩ ⟨i, hi, rfl, heq, hσ, h0, h1, h7, h8⟩
    simp only at hσ h0 h1 h7 h8
    subst hσ
    refine Runs.mix 9 ?_
    (refine Runs.of_step Orc.nothing 300 ?_; simp -implicitDefEqProofs only [BB, effR_some, effD_some, Int.reduceEq, Int.reduceNe, Int.reduceLT, Int.reduceLE, Int.reduceGT, Int.reduceGE, Nat.reduceEqDiff, Nat.reduceAdd, Nat.reduceMul, Nat.reduceLeDiff, Nat.reduceSub, Nat.reduceLT, Nat.reduceBEq, ↓reduceIte, reduceCtorEq, ← decide_not, okind, vpre, vpure, intBin, intPre, strBin, strPre, popTo, argSlots, fldV, fldAV, subCells, idxVV, idxAAV, idxSV, sliceV, sliceSV, boundV, szIs, storeOp, storeS, setRowV, eff, extV, buildV, splice, eqSV, fitsL, eqCells, eqCell, minmaxV, capV, binBV, nilCheckV, bytesV, V.cells, V.stays, Orc.nothing, h0, h1, h7, h8])
    refine And.intro (fun h => ?_) (fun h => ?_)
    · have hlt : i < p.length := by omega
      have hd := idxI_drop (a := a) hlt
      simp -implicitDefEqProofs only [BB, effR_some, effD_some, Int.reduceEq, Int.reduceNe, Int.reduceLT, Int.reduceLE, Int.reduceGT, Int.reduceGE, Nat.reduceEqDiff, Nat.reduceAdd, Nat.reduceMul, Nat.reduceLeDiff, Nat.reduceSub, Nat.reduceLT, Nat.reduceBEq, ↓reduceIte, reduceCtorEq, ← decide_not, okind, vpre, vpure, intBin, intPre, strBin, strPre, popTo, argSlots, fldV, fldAV, subCells, idxVV, idxAAV, idxSV, sliceV, sliceSV, boundV, szIs, storeOp, storeS, setRowV, eff, extV, buildV, splice, eqSV, fitsL, eqCells, eqCell, minmaxV, capV, binBV, nilCheckV, bytesV, V.cells, V.stays, idxAV_encI hlt, h0, h1, h7, h8]
      refine And.intro (fun hc => ?_) (fun hc => ?_)
      · refine RetV.same ?_
        rw [heq, hd, if_pos (by simpa using hc)]
      · refine ⟨inR_i64 (by omega) (by omega), _, ?_, i + 1, by omega, rfl, ?_, by simp⟩
        · omega
        · rw [heq, hd, if_neg (by simpa using hc)]
    · have hie : i = p.length := by omega
      refine RetV.same ?_
      rw [heq, hie, List.drop_length]; rfl
set_option maxRecDepth 100000 in
theorem block9_c (x : Ed) (l : List Nd) (a : Int) : PFun Try.prog 70 [encH x l, vI a] (.bool (blockR l a)) := fun σ => by
  refine Contract.of_runs Try.func70 e70 k70 (by simp [c70]) ?_
  refine Runs.mix 6 ?_
  (refine Runs.of_step Orc.nothing 300 ?_; simp -implicitDefEqProofs only [BB, Int.reduceEq, Int.reduceNe, Int.reduceLT, Int.reduceLE, Int.reduceGT, Int.reduceGE, Nat.reduceEqDiff, Nat.reduceAdd, Nat.reduceMul, Nat.reduceLeDiff, Nat.reduceSub, Nat.reduceLT, Nat.reduceBEq, ↓reduceIte, reduceCtorEq, ← decide_not, okind, vpre, vpure, intBin, intPre, strBin, strPre, popTo, argSlots, fldV, fldAV, subCells, idxVV, idxAAV, idxSV, sliceV, sliceSV, boundV, szIs, storeOp, storeS, setRowV, eff, extV, buildV, splice, eqSV, fitsL, eqCells, eqCell, minmaxV, capV, binBV, nilCheckV, bytesV, V.cells, V.stays, Orc.nothing, c70, encH, encNs_cells, encNs_stays])
  refine effR_new fun id2 σ1 s1 a2 f2 => ?_
  simp -implicitDefEqProofs only [BB, Int.reduceEq, Int.reduceNe, Int.reduceLT, Int.reduceLE, Int.reduceGT, Int.reduceGE, Nat.reduceEqDiff, Nat.reduceAdd, Nat.reduceMul, Nat.reduceLeDiff, Nat.reduceSub, Nat.reduceLT, Nat.reduceBEq, ↓reduceIte, reduceCtorEq, ← decide_not, okind, vpre, vpure, intBin, intPre, strBin, strPre, popTo, argSlots, fldV, fldAV, subCells, idxVV, idxAAV, idxSV, sliceV, sliceSV, boundV, szIs, storeOp, storeS, setRowV, eff, extV, buildV, splice, eqSV, fitsL, eqCells, eqCell, minmaxV, capV, binBV, nilCheckV, bytesV, V.cells, V.stays, a2, encNs_cells, encNs_stays, lenV_encNs]
  refine And.intro (fun h0 => And.intro (fun h1 => ?_) (fun h1 => ?_)) (fun h0 => ?_)
  · have hlt : a.toNat < l.length := by omega
    simp -implicitDefEqProofs only [BB, Int.reduceEq, Int.reduceNe, Int.reduceLT, Int.reduceLE, Int.reduceGT, Int.reduceGE, Nat.reduceEqDiff, Nat.reduceAdd, Nat.reduceMul, Nat.reduceLeDiff, Nat.reduceSub, Nat.reduceLT, Nat.reduceBEq, ↓reduceIte, reduceCtorEq, ← decide_not, okind, vpre, vpure, intBin, intPre, strBin, strPre, popTo, argSlots, fldV, fldAV, subCells, idxVV, idxAAV, idxSV, sliceV, sliceSV, boundV, szIs, storeOp, storeS, setRowV, eff, extV, buildV, splice, eqSV, fitsL, eqCells, eqCell, minmaxV, capV, binBV, nilCheckV, bytesV, V.cells, V.stays, idxAV_encNsI h0 hlt, Nd.cells]
    refine RetV.pure s1 ?_
    have : hasI l a = true := hasI_iff.2 ⟨by omega, by omega⟩
    simp [blockR, this, kdI_eq hlt]
  · refine RetV.pure s1 ?_
    have : hasI l a = false := by simp [hasI]; omega
    simp [blockR, this]
  · refine RetV.pure s1 ?_
    have : hasI l a = false := by simp [hasI]; omega
    simp [blockR, this]
set_option maxRecDepth 100000 in
theorem clip_c {K σ : Store} {v : V} {rows : List V} (h : OutV K σ 3 1 v rows) (hl : rows.length ≤ 1000000000) : Contract Try.prog 92 [v] σ fun r σ' => r = v ∧ σ' = σ := by
  rcases h with ⟨rfl, rfl⟩ | ⟨id, rfl, ho, hk⟩
  · refine Contract.of_runs Try.func92 e92 k92 (by simp [c92]) ?_
    refine Runs.mix 3 ?_
    (refine Runs.of_step Orc.nothing 300 ?_; simp -implicitDefEqProofs only [BB, effR_some, effD_some, Int.reduceEq, Int.reduceNe, Int.reduceLT, Int.reduceLE, Int.reduceGT, Int.reduceGE, Nat.reduceEqDiff, Nat.reduceAdd, Nat.reduceMul, Nat.reduceLeDiff, Nat.reduceSub, Nat.reduceLT, Nat.reduceBEq, ↓reduceIte, reduceCtorEq, ← decide_not, okind, vpre, vpure, intBin, intPre, strBin, strPre, popTo, argSlots, fldV, fldAV, subCells, idxVV, idxAAV, idxSV, sliceV, sliceSV, boundV, szIs, storeOp, storeS, setRowV, eff, extV, buildV, splice, eqSV, fitsL, eqCells, eqCell, minmaxV, capV, binBV, nilCheckV, bytesV, V.cells, V.stays, Orc.nothing, c92])
    exact RetV.same rfl
  · refine Contract.of_runs Try.func92 e92 k92 (by simp [c92]) ?_
    refine Runs.mix 3 ?_
    have hc : (0 : Int) ≤ rows.length ∧ (rows.length : Int) ≤ rows.length := by omega
    (refine Runs.of_step Orc.nothing 300 ?_; simp -implicitDefEqProofs only [BB, effR_some, effD_some, Int.reduceEq, Int.reduceNe, Int.reduceLT, Int.reduceLE, Int.reduceGT, Int.reduceGE, Nat.reduceEqDiff, Nat.reduceAdd, Nat.reduceMul, Nat.reduceLeDiff, Nat.reduceSub, Nat.reduceLT, Nat.reduceBEq, ↓reduceIte, reduceCtorEq, ← decide_not, okind, vpre, vpure, intBin, intPre, strBin, strPre, popTo, argSlots, fldV, fldAV, subCells, idxVV, idxAAV, idxSV, sliceV, sliceSV, boundV, szIs, storeOp, storeS, setRowV, eff, extV, buildV, splice, eqSV, fitsL, eqCells, eqCell, minmaxV, capV, binBV, nilCheckV, bytesV, V.cells, V.stays, Orc.nothing, c92, ho, beq_self_eq_true, hc, Int.toNat_zero, Int.toNat_natCast, Nat.sub_zero])
    exact RetV.same rfl
theorem lastEnd_nil (l : List Nd) (into : Int) : lastEnd l into [] = into + 1 := rfl
theorem lastEnd_last {l : List Nd} {into : Int} {ks : List Int} (h : 0 < ks.length) : lastEnd l into ks = ks[ks.length - 1] + szI l (ks[ks.length - 1]).toNat := by
  have := lastEnd_take (l := l) (into := into) (ks := ks) (i := ks.length - 1) (by omega)
  rw [show ks.length - 1 + 1 = ks.length by omega, List.take_length] at this
  exact this
set_option maxRecDepth 100000 in
theorem places9_c (x : Ed) (l : List Nd) (hl : Fine l) (hb : isB l = true) (ha : x.into = -1 ∨ hasI l x.into = true) : PFun Try.prog 71 [encH x l] (encI (placesR l x.into)) := fun σ => by
  have hl1 := hl.1
  have hin : -1 ≤ x.into ∧ x.into ≤ 1000000000 := by
    rcases ha with h | h
    · omega
    · have := hasI_iff.1 h; omega
  refine Contract.of_runs Try.func71 e71 k71 (by simp [c71]) ?_
  refine Runs.mix 6 ?_
  (refine Runs.of_step Orc.nothing 300 ?_; simp -implicitDefEqProofs only [BB, Int.reduceEq, Int.reduceNe, Int.reduceLT, Int.reduceLE, Int.reduceGT, Int.reduceGE, Nat.reduceEqDiff, Nat.reduceAdd, Nat.reduceMul, Nat.reduceLeDiff, Nat.reduceSub, Nat.reduceLT, Nat.reduceBEq, ↓reduceIte, reduceCtorEq, ← decide_not, okind, vpre, vpure, intBin, intPre, strBin, strPre, popTo, argSlots, fldV, fldAV, subCells, idxVV, idxAAV, idxSV, sliceV, sliceSV, boundV, szIs, storeOp, storeS, setRowV, eff, extV, buildV, splice, eqSV, fitsL, eqCells, eqCell, minmaxV, capV, binBV, nilCheckV, bytesV, V.cells, V.stays, Orc.nothing, c71, encH, encNs_cells, encNs_stays])
  refine effR_new fun id1 σ1 s1 a1 f1 => ?_
  simp -implicitDefEqProofs only [BB, Int.reduceEq, Int.reduceNe, Int.reduceLT, Int.reduceLE, Int.reduceGT, Int.reduceGE, Nat.reduceEqDiff, Nat.reduceAdd, Nat.reduceMul, Nat.reduceLeDiff, Nat.reduceSub, Nat.reduceLT, Nat.reduceBEq, ↓reduceIte, reduceCtorEq, ← decide_not, okind, vpre, vpure, intBin, intPre, strBin, strPre, popTo, argSlots, fldV, fldAV, subCells, idxVV, idxAAV, idxSV, sliceV, sliceSV, boundV, szIs, storeOp, storeS, setRowV, eff, extV, buildV, splice, eqSV, fitsL, eqCells, eqCell, minmaxV, capV, binBV, nilCheckV, bytesV, V.cells, V.stays, a1, encNs_cells, encNs_stays]
  have hkl := kidsR_len l x.into
  have hkm := fun y (h : y ∈ kidsR l x.into) => kidsR_mem h
  refine Runs.call rfl rfl rfl (kids9_c l hl hb _ ha _) ?_
  rintro r σ2 ⟨hsub, hout⟩
  have hpe : placesR l x.into = kidsR l x.into ++ [lastEnd l x.into (kidsR l x.into)] := rfl
  rw [hpe]
  generalize kidsR l x.into = ks at *
  (refine Runs.of_step Orc.nothing 300 ?_; simp -implicitDefEqProofs only [BB, Int.reduceEq, Int.reduceNe, Int.reduceLT, Int.reduceLE, Int.reduceGT, Int.reduceGE, Nat.reduceEqDiff, Nat.reduceAdd, Nat.reduceMul, Nat.reduceLeDiff, Nat.reduceSub, Nat.reduceLT, Nat.reduceBEq, ↓reduceIte, reduceCtorEq, ← decide_not, okind, vpre, vpure, intBin, intPre, strBin, strPre, popTo, argSlots, fldV, fldAV, subCells, idxVV, idxAAV, idxSV, sliceV, sliceSV, boundV, szIs, storeOp, storeS, setRowV, eff, extV, buildV, splice, eqSV, fitsL, eqCells, eqCell, minmaxV, capV, binBV, nilCheckV, bytesV, V.cells, V.stays, Orc.nothing])
  have hkl2 : (ks.map vI).length ≤ 1000000000 := by rw [List.length_map]; omega
  refine Runs.pcall rfl rfl rfl (clip_c hout hkl2) ?_
  have a1' := hsub _ _ a1
  have n1 := hout.len
  rw [List.length_map] at n1
  have hout' := hout
  have hb2 : (ks.length + 1) * 9 ≤ 140737488355328 := by omega
  rcases hout with ⟨rfl, hr0⟩ | ⟨id, rfl, ho, hk⟩
  · have hk0 : ks = [] := by cases ks with | nil => rfl | cons a b => simp at hr0
    subst hk0
    (refine Runs.of_step Orc.nothing 300 ?_; simp -implicitDefEqProofs only [BB, Int.reduceEq, Int.reduceNe, Int.reduceLT, Int.reduceLE, Int.reduceGT, Int.reduceGE, Nat.reduceEqDiff, Nat.reduceAdd, Nat.reduceMul, Nat.reduceLeDiff, Nat.reduceSub, Nat.reduceLT, Nat.reduceBEq, ↓reduceIte, reduceCtorEq, ← decide_not, okind, vpre, vpure, intBin, intPre, strBin, strPre, popTo, argSlots, fldV, fldAV, subCells, idxVV, idxAAV, idxSV, sliceV, sliceSV, boundV, szIs, storeOp, storeS, setRowV, eff, extV, buildV, splice, eqSV, fitsL, eqCells, eqCell, minmaxV, capV, binBV, nilCheckV, bytesV, V.cells, V.stays, Orc.nothing, a1', encNs_cells, encNs_stays])
    refine ⟨inR_i64 (by omega) (by omega), ?_⟩
    refine effR_new fun id3 σ3 s3 a3 f3 => ?_
    obtain ⟨idA, hd, hdel⟩ := hout'.dst s3
    simp -implicitDefEqProofs only [BB, Int.reduceEq, Int.reduceNe, Int.reduceLT, Int.reduceLE, Int.reduceGT, Int.reduceGE, Nat.reduceEqDiff, Nat.reduceAdd, Nat.reduceMul, Nat.reduceLeDiff, Nat.reduceSub, Nat.reduceLT, Nat.reduceBEq, ↓reduceIte, reduceCtorEq, ← decide_not, okind, vpre, vpure, intBin, intPre, strBin, strPre, popTo, argSlots, fldV, fldAV, subCells, idxVV, idxAAV, idxSV, sliceV, sliceSV, boundV, szIs, storeOp, storeS, setRowV, eff, extV, buildV, splice, eqSV, fitsL, eqCells, eqCell, minmaxV, capV, binBV, nilCheckV, bytesV, V.cells, V.stays, hd, srcOne a3, List.length_map, hb2]
    refine effR_put fun id4 σ4 s4 a4 f4 => ?_
    simp -implicitDefEqProofs only [BB, Int.reduceEq, Int.reduceNe, Int.reduceLT, Int.reduceLE, Int.reduceGT, Int.reduceGE, Nat.reduceEqDiff, Nat.reduceAdd, Nat.reduceMul, Nat.reduceLeDiff, Nat.reduceSub, Nat.reduceLT, Nat.reduceBEq, ↓reduceIte, reduceCtorEq, ← decide_not, okind, vpre, vpure, intBin, intPre, strBin, strPre, popTo, argSlots, fldV, fldAV, subCells, idxVV, idxAAV, idxSV, sliceV, sliceSV, boundV, szIs, storeOp, storeS, setRowV, eff, extV, buildV, splice, eqSV, fitsL, eqCells, eqCell, minmaxV, capV, binBV, nilCheckV, bytesV, V.cells, V.stays]
    have hs3 := (s1.trans hsub).trans s3
    have hs4 := (hdel σ s1 σ3 hs3).trans s4
    exact (OutV.new (K := σ) (e := 3) (sz := 1) (n := 1) (rows := ([lastEnd l x.into []]).map vI) rfl (by rw [a4]; rfl) (hs3.none f4)).retv hs4 rfl
  · rw [List.length_map] at hout' ⊢
    (refine Runs.of_step Orc.nothing 300 ?_; simp -implicitDefEqProofs only [BB, Int.reduceEq, Int.reduceNe, Int.reduceLT, Int.reduceLE, Int.reduceGT, Int.reduceGE, Nat.reduceEqDiff, Nat.reduceAdd, Nat.reduceMul, Nat.reduceLeDiff, Nat.reduceSub, Nat.reduceLT, Nat.reduceBEq, ↓reduceIte, reduceCtorEq, ← decide_not, okind, vpre, vpure, intBin, intPre, strBin, strPre, popTo, argSlots, fldV, fldAV, subCells, idxVV, idxAAV, idxSV, sliceV, sliceSV, boundV, szIs, storeOp, storeS, setRowV, eff, extV, buildV, splice, eqSV, fitsL, eqCells, eqCell, minmaxV, capV, binBV, nilCheckV, bytesV, V.cells, V.stays, Orc.nothing, a1', encNs_cells, encNs_stays])
    refine ⟨inR_i64 (by omega) (by omega), And.intro (fun h => ?gA) (fun h => ?gB)⟩
    case' gA =>
      have hpos : 0 < ks.length := by omega
      have hlt : ks.length - 1 < ks.length := by omega
      obtain ⟨g1, g2⟩ := hkm _ (List.getElem_mem hlt)
      have hsz := szI_bound hb g2
      have hse := szI_eq g2
      have e1 : (ks.length : Int) - 1 = ((ks.length - 1 : Nat) : Int) := by omega
      have hle := lastEnd_last (l := l) (into := x.into) hpos
      have hrow : (ks.map vI)[ks.length - 1]? = some (vI ks[ks.length - 1]) := by simp [hlt]
      have hc : (0 : Int) ≤ ((ks.length - 1 : Nat) : Int) ∧ ((ks.length - 1 : Nat) : Int) < ks.length := by omega
      generalize hke : ks[ks.length - 1] = q at *
      simp -implicitDefEqProofs only [BB, Int.reduceEq, Int.reduceNe, Int.reduceLT, Int.reduceLE, Int.reduceGT, Int.reduceGE, Nat.reduceEqDiff, Nat.reduceAdd, Nat.reduceMul, Nat.reduceLeDiff, Nat.reduceSub, Nat.reduceLT, Nat.reduceBEq, ↓reduceIte, reduceCtorEq, ← decide_not, okind, vpre, vpure, intBin, intPre, strBin, strPre, popTo, argSlots, fldV, fldAV, subCells, idxVV, idxAAV, idxSV, sliceV, sliceSV, boundV, szIs, storeOp, storeS, setRowV, eff, extV, buildV, splice, eqSV, fitsL, eqCells, eqCell, minmaxV, capV, binBV, nilCheckV, bytesV, V.cells, V.stays, e1, ho, hc, hrow, Int.toNat_natCast, a1', idxAV_encNsI g1 g2, Nd.cells]
      rw [← hse]
      refine ⟨inR_i64 (by omega) (by omega), inR_i64 (by omega) (by omega), inR_i64 (by omega) (by omega), ?_⟩
      rw [← hle]
    case' gB =>
      have hk0 : ks = [] := List.eq_nil_of_length_eq_zero (by omega)
      have hle : x.into + 1 = lastEnd l x.into ks := by rw [hk0]; rfl
      rw [hle]
    case gA | gB =>
      generalize lastEnd l x.into ks = le at *
      refine effR_new fun id3 σ3 s3 a3 f3 => ?_
      obtain ⟨idA, hd, hdel⟩ := hout'.dst s3
      simp -implicitDefEqProofs only [BB, Int.reduceEq, Int.reduceNe, Int.reduceLT, Int.reduceLE, Int.reduceGT, Int.reduceGE, Nat.reduceEqDiff, Nat.reduceAdd, Nat.reduceMul, Nat.reduceLeDiff, Nat.reduceSub, Nat.reduceLT, Nat.reduceBEq, ↓reduceIte, reduceCtorEq, ← decide_not, okind, vpre, vpure, intBin, intPre, strBin, strPre, popTo, argSlots, fldV, fldAV, subCells, idxVV, idxAAV, idxSV, sliceV, sliceSV, boundV, szIs, storeOp, storeS, setRowV, eff, extV, buildV, splice, eqSV, fitsL, eqCells, eqCell, minmaxV, capV, binBV, nilCheckV, bytesV, V.cells, V.stays, hd, srcOne a3, List.length_map, hb2]
      refine effR_put fun id4 σ4 s4 a4 f4 => ?_
      simp -implicitDefEqProofs only [BB, Int.reduceEq, Int.reduceNe, Int.reduceLT, Int.reduceLE, Int.reduceGT, Int.reduceGE, Nat.reduceEqDiff, Nat.reduceAdd, Nat.reduceMul, Nat.reduceLeDiff, Nat.reduceSub, Nat.reduceLT, Nat.reduceBEq, ↓reduceIte, reduceCtorEq, ← decide_not, okind, vpre, vpure, intBin, intPre, strBin, strPre, popTo, argSlots, fldV, fldAV, subCells, idxVV, idxAAV, idxSV, sliceV, sliceSV, boundV, szIs, storeOp, storeS, setRowV, eff, extV, buildV, splice, eqSV, fitsL, eqCells, eqCell, minmaxV, capV, binBV, nilCheckV, bytesV, V.cells, V.stays]
      have hs3 := (s1.trans hsub).trans s3
      have hs4 := (hdel σ s1 σ3 hs3).trans s4
      exact (OutV.new (K := σ) (e := 3) (sz := 1) (n := ks.length + 1) (rows := (ks ++ [le]).map vI) (by simp) (by rw [a4]; simp) (hs3.none f4)).retv hs4 rfl
end Go.Vc
namespace Go.Vc
open Go.Proofs
def goneR (l : List Nd) (into pos many : Int) : Int × Int × Bool :=
  if into ≠ -1 ∧ blockR l into = false then (0, 0, false)
  else if idxI pos (placesR l into) 0 < 0 ∨ many < 0 ∨ many ≥ (placesR l into).length - idxI pos (placesR l into) 0 then (0, 0, false)
  else (pos, ((placesR l into)[(idxI pos (placesR l into) 0 + many).toNat]?).getD 0, true)
theorem idxI_range (a : Int) : ∀ (p : List Int) (i : Nat), idxI a p i = -1 ∨ (i : Int) ≤ idxI a p i ∧ idxI a p i < i + p.length
  | [], _ => .inl rfl
  | q :: r, i => by
    rw [idxI]
    split
    · right; simp; omega
    · rcases idxI_range a r (i + 1) with h | ⟨h1, h2⟩
      · exact .inl h
      · right; simp only [List.length_cons]; omega
theorem placesR_len (l : List Nd) (into : Int) : (placesR l into).length ≤ l.length + 1 := by
  have := kidsR_len l into
  simp only [placesR, List.length_append, List.length_cons, List.length_nil]; omega
set_option maxRecDepth 100000 in
theorem gone_c (x : Ed) (l : List Nd) (hl : Fine l) (hb : isB l = true) : PFun Try.prog 45 [encH x l] (.tup [vI (goneR l x.into x.pos x.many).1, vI (goneR l x.into x.pos x.many).2.1, .bool (goneR l x.into x.pos x.many).2.2]) := fun σ => by
  have hl1 := hl.1
  refine Contract.of_runs Try.func45 e45 k45 (by simp [c45]) ?_
  refine Runs.mix 7 ?_
  (refine Runs.of_step Orc.nothing 300 ?_; simp -implicitDefEqProofs only [BB, Int.reduceEq, Int.reduceNe, Int.reduceLT, Int.reduceLE, Int.reduceGT, Int.reduceGE, Nat.reduceEqDiff, Nat.reduceAdd, Nat.reduceMul, Nat.reduceLeDiff, Nat.reduceSub, Nat.reduceLT, Nat.reduceBEq, ↓reduceIte, reduceCtorEq, ← decide_not, okind, vpre, vpure, intBin, intPre, strBin, strPre, popTo, argSlots, fldV, fldAV, subCells, idxVV, idxAAV, idxSV, sliceV, sliceSV, boundV, szIs, storeOp, storeS, setRowV, eff, extV, buildV, splice, eqSV, fitsL, eqCells, eqCell, minmaxV, capV, binBV, nilCheckV, bytesV, V.cells, V.stays, Orc.nothing, c45, encH, encNs_cells, encNs_stays])
  refine effR_new fun id1 σ1 s1 a1 f1 => ?_
  simp -implicitDefEqProofs only [BB, Int.reduceEq, Int.reduceNe, Int.reduceLT, Int.reduceLE, Int.reduceGT, Int.reduceGE, Nat.reduceEqDiff, Nat.reduceAdd, Nat.reduceMul, Nat.reduceLeDiff, Nat.reduceSub, Nat.reduceLT, Nat.reduceBEq, ↓reduceIte, reduceCtorEq, ← decide_not, okind, vpre, vpure, intBin, intPre, strBin, strPre, popTo, argSlots, fldV, fldAV, subCells, idxVV, idxAAV, idxSV, sliceV, sliceSV, boundV, szIs, storeOp, storeS, setRowV, eff, extV, buildV, splice, eqSV, fitsL, eqCells, eqCell, minmaxV, capV, binBV, nilCheckV, bytesV, V.cells, V.stays, a1, encNs_cells, encNs_stays]
  refine And.intro (fun h => ?gA) (fun h => ?gB)
  case' gA =>
    refine Runs.pcall rfl rfl rfl (block9_c x l _ _) ?_
    cases hbk : blockR l x.into
  case' gA.false =>
    (refine Runs.of_step Orc.nothing 300 ?_; simp -implicitDefEqProofs only [BB, Int.reduceEq, Int.reduceNe, Int.reduceLT, Int.reduceLE, Int.reduceGT, Int.reduceGE, Nat.reduceEqDiff, Nat.reduceAdd, Nat.reduceMul, Nat.reduceLeDiff, Nat.reduceSub, Nat.reduceLT, Nat.reduceBEq, ↓reduceIte, reduceCtorEq, ← decide_not, okind, vpre, vpure, intBin, intPre, strBin, strPre, popTo, argSlots, fldV, fldAV, subCells, idxVV, idxAAV, idxSV, sliceV, sliceSV, boundV, szIs, storeOp, storeS, setRowV, eff, extV, buildV, splice, eqSV, fitsL, eqCells, eqCell, minmaxV, capV, binBV, nilCheckV, bytesV, V.cells, V.stays, Orc.nothing, hbk])
    refine RetV.pure s1 ?_
    rw [goneR, if_pos ⟨by simpa using h, hbk⟩]
  case' gA.true =>
    (refine Runs.of_step Orc.nothing 300 ?_; simp -implicitDefEqProofs only [BB, Int.reduceEq, Int.reduceNe, Int.reduceLT, Int.reduceLE, Int.reduceGT, Int.reduceGE, Nat.reduceEqDiff, Nat.reduceAdd, Nat.reduceMul, Nat.reduceLeDiff, Nat.reduceSub, Nat.reduceLT, Nat.reduceBEq, ↓reduceIte, reduceCtorEq, ← decide_not, okind, vpre, vpure, intBin, intPre, strBin, strPre, popTo, argSlots, fldV, fldAV, subCells, idxVV, idxAAV, idxSV, sliceV, sliceSV, boundV, szIs, storeOp, storeS, setRowV, eff, extV, buildV, splice, eqSV, fitsL, eqCells, eqCell, minmaxV, capV, binBV, nilCheckV, bytesV, V.cells, V.stays, Orc.nothing, hbk, a1, encNs_cells, encNs_stays])
    have hin : x.into = -1 ∨ hasI l x.into = true := by
      simp only [blockR, Bool.and_eq_true] at hbk
      exact .inr hbk.1
    have hnb : ¬ (x.into ≠ -1 ∧ blockR l x.into = false) := by simp [hbk]
  case' gB =>
    have hin : x.into = -1 ∨ hasI l x.into = true := .inl (by omega)
    have hnb : ¬ (x.into ≠ -1 ∧ blockR l x.into = false) := by omega
  case gA.true | gB =>
    have hG : goneR l x.into x.pos x.many = if idxI x.pos (placesR l x.into) 0 < 0 ∨ x.many < 0 ∨ x.many ≥ (placesR l x.into).length - idxI x.pos (placesR l x.into) 0 then (0, 0, false)
      else (x.pos, ((placesR l x.into)[(idxI x.pos (placesR l x.into) 0 + x.many).toNat]?).getD 0, true) := by
      rw [goneR, if_neg hnb]
    rw [hG]
    have hpl := placesR_len l x.into
    refine Runs.pcall rfl rfl rfl (places9_c x l hl hb hin _) ?_
    generalize placesR l x.into = p at *
    (refine Runs.of_step Orc.nothing 300 ?_; simp -implicitDefEqProofs only [BB, Int.reduceEq, Int.reduceNe, Int.reduceLT, Int.reduceLE, Int.reduceGT, Int.reduceGE, Nat.reduceEqDiff, Nat.reduceAdd, Nat.reduceMul, Nat.reduceLeDiff, Nat.reduceSub, Nat.reduceLT, Nat.reduceBEq, ↓reduceIte, reduceCtorEq, ← decide_not, okind, vpre, vpure, intBin, intPre, strBin, strPre, popTo, argSlots, fldV, fldAV, subCells, idxVV, idxAAV, idxSV, sliceV, sliceSV, boundV, szIs, storeOp, storeS, setRowV, eff, extV, buildV, splice, eqSV, fitsL, eqCells, eqCell, minmaxV, capV, binBV, nilCheckV, bytesV, V.cells, V.stays, Orc.nothing, a1, encNs_cells, encNs_stays])
    refine Runs.pcall rfl rfl rfl (index_c p (by omega) _ _) ?_
    have hr := idxI_range x.pos p 0
    generalize idxI x.pos p 0 = k at *
    (refine Runs.of_step Orc.nothing 300 ?_; simp -implicitDefEqProofs only [BB, Int.reduceEq, Int.reduceNe, Int.reduceLT, Int.reduceLE, Int.reduceGT, Int.reduceGE, Nat.reduceEqDiff, Nat.reduceAdd, Nat.reduceMul, Nat.reduceLeDiff, Nat.reduceSub, Nat.reduceLT, Nat.reduceBEq, ↓reduceIte, reduceCtorEq, ← decide_not, okind, vpre, vpure, intBin, intPre, strBin, strPre, popTo, argSlots, fldV, fldAV, subCells, idxVV, idxAAV, idxSV, sliceV, sliceSV, boundV, szIs, storeOp, storeS, setRowV, eff, extV, buildV, splice, eqSV, fitsL, eqCells, eqCell, minmaxV, capV, binBV, nilCheckV, bytesV, V.cells, V.stays, Orc.nothing, a1, encNs_cells, encNs_stays, lenV_encI])
    refine And.intro (fun h1 => And.intro (fun h2 => ⟨inR_i64 (by omega) (by omega), And.intro (fun h3 => ?r3) (fun h3 => ⟨inR_i64 (by omega) (by omega), ?r4⟩)⟩) (fun h2 => ?r2)) (fun h1 => ?r1)
    case r1 =>
      refine RetV.pure s1 ?_
      rw [if_pos (.inl h1)]
    case r2 =>
      refine RetV.pure s1 ?_
      rw [if_pos (.inr (.inl h2))]
    case r3 =>
      refine RetV.pure s1 ?_
      rw [if_pos (.inr (.inr h3))]
    case r4 =>
      have hlt : (k + x.many).toNat < p.length := by omega
      have e2 : k + x.many = (((k + x.many).toNat : Nat) : Int) := by omega
      rw [if_neg (by omega)]
      have hx := fun σ => idxAV_encI (σ := σ) hlt
      rw [← e2] at hx
      simp -implicitDefEqProofs only [BB, Int.reduceEq, Int.reduceNe, Int.reduceLT, Int.reduceLE, Int.reduceGT, Int.reduceGE, Nat.reduceEqDiff, Nat.reduceAdd, Nat.reduceMul, Nat.reduceLeDiff, Nat.reduceSub, Nat.reduceLT, Nat.reduceBEq, ↓reduceIte, reduceCtorEq, ← decide_not, okind, vpre, vpure, intBin, intPre, strBin, strPre, popTo, argSlots, fldV, fldAV, subCells, idxVV, idxAAV, idxSV, sliceV, sliceSV, boundV, szIs, storeOp, storeS, setRowV, eff, extV, buildV, splice, eqSV, fitsL, eqCells, eqCell, minmaxV, capV, binBV, nilCheckV, bytesV, V.cells, V.stays, hx]
      refine RetV.pure s1 ?_
      simp [hlt]
end Go.Vc
namespace Go.Vc
open Go.Proofs
theorem upd_self {σ : Store} {id : Nat} {o : Ob} (h : σ id = some o) : upd σ id o = σ := by
  funext i
  by_cases e : i = id
  · rw [e, upd_same, h]
  · rw [upd_ne e]
/-- of a size that can be gone through, and made anew -/
def Sml (l : List Nd) : Prop := l.length ≤ 10000 ∧ ∀ x ∈ l, x.words.length ≤ 1000000000
theorem Sml.fine {l : List Nd} (h : Sml l) : Fine l := ⟨h.1, fun x hx => by have := h.2 x hx; omega⟩
set_option maxRecDepth 100000 in
theorem clone_c (l : List Nd) (hl : l.length ≤ 10000) (σ : Store) : Contract Try.prog 74 [encNs l] σ fun r σ' => SubStore σ σ' ∧ OutV σ σ' 28 20 r (l.map encN) := by
  refine Contract.of_runs Try.func74 e74 k74 (by simp [c74]) ?_
  refine Runs.mix 3 ?_
  (refine Runs.of_step Orc.nothing 8 ?_; simp -implicitDefEqProofs only [BB, Int.reduceEq, Int.reduceNe, Int.reduceLT, Int.reduceLE, Int.reduceGT, Int.reduceGE, Nat.reduceEqDiff, Nat.reduceAdd, Nat.reduceMul, Nat.reduceLeDiff, Nat.reduceSub, Nat.reduceLT, Nat.reduceBEq, ↓reduceIte, reduceCtorEq, ← decide_not, okind, vpre, vpure, intBin, intPre, strBin, strPre, popTo, argSlots, fldV, fldAV, subCells, idxVV, idxAAV, idxSV, sliceV, sliceSV, boundV, szIs, storeOp, storeS, setRowV, eff, extV, buildV, splice, eqSV, fitsL, eqCells, eqCell, minmaxV, capV, binBV, nilCheckV, bytesV, V.cells, V.stays, s_zero, Orc.nothing, c74])
  refine Runs.nilS rfl rfl rfl fun b hb => ?_
  cases b
  · (refine Runs.of_step Orc.nothing 300 ?_; simp -implicitDefEqProofs only [BB, Int.reduceEq, Int.reduceNe, Int.reduceLT, Int.reduceLE, Int.reduceGT, Int.reduceGE, Nat.reduceEqDiff, Nat.reduceAdd, Nat.reduceMul, Nat.reduceLeDiff, Nat.reduceSub, Nat.reduceLT, Nat.reduceBEq, ↓reduceIte, reduceCtorEq, ← decide_not, okind, vpre, vpure, intBin, intPre, strBin, strPre, popTo, argSlots, fldV, fldAV, subCells, idxVV, idxAAV, idxSV, sliceV, sliceSV, boundV, szIs, storeOp, storeS, setRowV, eff, extV, buildV, splice, eqSV, fitsL, eqCells, eqCell, minmaxV, capV, binBV, nilCheckV, bytesV, V.cells, V.stays, Orc.nothing])
    refine effR_new fun id1 σ1 s1 a1 f1 => ?_
    obtain ⟨idA, hd, hdel⟩ := (OutV.new (K := σ) (e := 28) (sz := 20) (n := 0) (rows := []) rfl a1 f1).dst (SubStore.refl _)
    have hsrc : ∀ σ, srcRows σ 20 (encNs l) = some (l.map encN) := fun σ => by simp [encNs, srcRows]
    have hb2 : l.length * 177 ≤ 140737488355328 := by omega
    simp -implicitDefEqProofs only [BB, Int.reduceEq, Int.reduceNe, Int.reduceLT, Int.reduceLE, Int.reduceGT, Int.reduceGE, Nat.reduceEqDiff, Nat.reduceAdd, Nat.reduceMul, Nat.reduceLeDiff, Nat.reduceSub, Nat.reduceLT, Nat.reduceBEq, ↓reduceIte, reduceCtorEq, ← decide_not, okind, vpre, vpure, intBin, intPre, strBin, strPre, popTo, argSlots, fldV, fldAV, subCells, idxVV, idxAAV, idxSV, sliceV, sliceSV, boundV, szIs, storeOp, storeS, setRowV, eff, extV, buildV, splice, eqSV, fitsL, eqCells, eqCell, minmaxV, capV, binBV, nilCheckV, bytesV, V.cells, V.stays, hd, hsrc, List.length_map, hb2]
    refine effR_put fun id2 σ2 s2 a2 f2 => ?_
    have hs2 := (hdel σ (SubStore.refl _) σ1 s1).trans s2
    simp -implicitDefEqProofs only [BB, Int.reduceEq, Int.reduceNe, Int.reduceLT, Int.reduceLE, Int.reduceGT, Int.reduceGE, Nat.reduceEqDiff, Nat.reduceAdd, Nat.reduceMul, Nat.reduceLeDiff, Nat.reduceSub, Nat.reduceLT, Nat.reduceBEq, ↓reduceIte, reduceCtorEq, ← decide_not, okind, vpre, vpure, intBin, intPre, strBin, strPre, popTo, argSlots, fldV, fldAV, subCells, idxVV, idxAAV, idxSV, sliceV, sliceSV, boundV, szIs, storeOp, storeS, setRowV, eff, extV, buildV, splice, eqSV, fitsL, eqCells, eqCell, minmaxV, capV, binBV, nilCheckV, bytesV, V.cells, V.stays]
    refine ⟨_, _, SubStore.refl _, Wk.refl (SubStore.refl _) _, hs2, OutV.new (by simp) a2 (s1.none f2)⟩
  · (refine Runs.of_step Orc.nothing 300 ?_; simp -implicitDefEqProofs only [BB, Int.reduceEq, Int.reduceNe, Int.reduceLT, Int.reduceLE, Int.reduceGT, Int.reduceGE, Nat.reduceEqDiff, Nat.reduceAdd, Nat.reduceMul, Nat.reduceLeDiff, Nat.reduceSub, Nat.reduceLT, Nat.reduceBEq, ↓reduceIte, reduceCtorEq, ← decide_not, okind, vpre, vpure, intBin, intPre, strBin, strPre, popTo, argSlots, fldV, fldAV, subCells, idxVV, idxAAV, idxSV, sliceV, sliceSV, boundV, szIs, storeOp, storeS, setRowV, eff, extV, buildV, splice, eqSV, fitsL, eqCells, eqCell, minmaxV, capV, binBV, nilCheckV, bytesV, V.cells, V.stays, Orc.nothing])
    refine ⟨_, _, SubStore.refl _, Wk.refl (SubStore.refl _) _, SubStore.refl _, ?_⟩
    have : l.map encN = [] := hb rfl
    rw [this]
    exact OutV.start
set_option maxRecDepth 100000 in
theorem cloneI_c (l : List Int) (hl : l.length ≤ 1000000000) : PFun Try.prog 75 [encI l] (encI l) := fun σ => by
  refine Contract.of_runs Try.func75 e75 k75 (by simp [c75]) ?_
  refine Runs.mix 3 ?_
  (refine Runs.of_step Orc.nothing 8 ?_; simp -implicitDefEqProofs only [BB, Int.reduceEq, Int.reduceNe, Int.reduceLT, Int.reduceLE, Int.reduceGT, Int.reduceGE, Nat.reduceEqDiff, Nat.reduceAdd, Nat.reduceMul, Nat.reduceLeDiff, Nat.reduceSub, Nat.reduceLT, Nat.reduceBEq, ↓reduceIte, reduceCtorEq, ← decide_not, okind, vpre, vpure, intBin, intPre, strBin, strPre, popTo, argSlots, fldV, fldAV, subCells, idxVV, idxAAV, idxSV, sliceV, sliceSV, boundV, szIs, storeOp, storeS, setRowV, eff, extV, buildV, splice, eqSV, fitsL, eqCells, eqCell, minmaxV, capV, binBV, nilCheckV, bytesV, V.cells, V.stays, s_zero, Orc.nothing, c75])
  refine Runs.nilS rfl rfl rfl fun b hb => ?_
  cases b
  · (refine Runs.of_step Orc.nothing 300 ?_; simp -implicitDefEqProofs only [BB, Int.reduceEq, Int.reduceNe, Int.reduceLT, Int.reduceLE, Int.reduceGT, Int.reduceGE, Nat.reduceEqDiff, Nat.reduceAdd, Nat.reduceMul, Nat.reduceLeDiff, Nat.reduceSub, Nat.reduceLT, Nat.reduceBEq, ↓reduceIte, reduceCtorEq, ← decide_not, okind, vpre, vpure, intBin, intPre, strBin, strPre, popTo, argSlots, fldV, fldAV, subCells, idxVV, idxAAV, idxSV, sliceV, sliceSV, boundV, szIs, storeOp, storeS, setRowV, eff, extV, buildV, splice, eqSV, fitsL, eqCells, eqCell, minmaxV, capV, binBV, nilCheckV, bytesV, V.cells, V.stays, Orc.nothing])
    refine effR_new fun id1 σ1 s1 a1 f1 => ?_
    obtain ⟨idA, hd, hdel⟩ := (OutV.new (K := σ) (e := 3) (sz := 1) (n := 0) (rows := []) rfl a1 f1).dst (SubStore.refl _)
    have hb2 : l.length * 9 ≤ 140737488355328 := by omega
    simp -implicitDefEqProofs only [BB, Int.reduceEq, Int.reduceNe, Int.reduceLT, Int.reduceLE, Int.reduceGT, Int.reduceGE, Nat.reduceEqDiff, Nat.reduceAdd, Nat.reduceMul, Nat.reduceLeDiff, Nat.reduceSub, Nat.reduceLT, Nat.reduceBEq, ↓reduceIte, reduceCtorEq, ← decide_not, okind, vpre, vpure, intBin, intPre, strBin, strPre, popTo, argSlots, fldV, fldAV, subCells, idxVV, idxAAV, idxSV, sliceV, sliceSV, boundV, szIs, storeOp, storeS, setRowV, eff, extV, buildV, splice, eqSV, fitsL, eqCells, eqCell, minmaxV, capV, binBV, nilCheckV, bytesV, V.cells, V.stays, hd, srcRows_encI, List.length_map, hb2]
    refine effR_put fun id2 σ2 s2 a2 f2 => ?_
    have hs2 := (hdel σ (SubStore.refl _) σ1 s1).trans s2
    simp -implicitDefEqProofs only [BB, Int.reduceEq, Int.reduceNe, Int.reduceLT, Int.reduceLE, Int.reduceGT, Int.reduceGE, Nat.reduceEqDiff, Nat.reduceAdd, Nat.reduceMul, Nat.reduceLeDiff, Nat.reduceSub, Nat.reduceLT, Nat.reduceBEq, ↓reduceIte, reduceCtorEq, ← decide_not, okind, vpre, vpure, intBin, intPre, strBin, strPre, popTo, argSlots, fldV, fldAV, subCells, idxVV, idxAAV, idxSV, sliceV, sliceSV, boundV, szIs, storeOp, storeS, setRowV, eff, extV, buildV, splice, eqSV, fitsL, eqCells, eqCell, minmaxV, capV, binBV, nilCheckV, bytesV, V.cells, V.stays]
    exact (OutV.new (K := σ) (e := 3) (sz := 1) (n := l.length) (rows := l.map vI) (by simp) a2 (s1.none f2)).retv hs2 rfl
  · (refine Runs.of_step Orc.nothing 300 ?_; simp -implicitDefEqProofs only [BB, Int.reduceEq, Int.reduceNe, Int.reduceLT, Int.reduceLE, Int.reduceGT, Int.reduceGE, Nat.reduceEqDiff, Nat.reduceAdd, Nat.reduceMul, Nat.reduceLeDiff, Nat.reduceSub, Nat.reduceLT, Nat.reduceBEq, ↓reduceIte, reduceCtorEq, ← decide_not, okind, vpre, vpure, intBin, intPre, strBin, strPre, popTo, argSlots, fldV, fldAV, subCells, idxVV, idxAAV, idxSV, sliceV, sliceSV, boundV, szIs, storeOp, storeS, setRowV, eff, extV, buildV, splice, eqSV, fitsL, eqCells, eqCell, minmaxV, capV, binBV, nilCheckV, bytesV, V.cells, V.stays, Orc.nothing])
    have : l.map vI = [] := hb rfl
    exact (OutV.start (K := σ) (σ := σ) (e := 3) (sz := 1)).retv (SubStore.refl _) (by rw [encI, this])
set_option maxRecDepth 100000 in
theorem own9_o (l : List Nd) (hl : Sml l) (σ : Store) : Contract Try.prog 47 [encNs l] σ fun r σ' => SubStore σ σ' ∧ OutV σ σ' 28 20 r (l.map encN) := by
  obtain ⟨hl1, hl2⟩ := hl
  refine Contract.of_runs Try.func47 e47 k47 (by simp [c47]) ?_
  refine Runs.mix 10 ?_
  (refine Runs.of_step Orc.nothing 300 ?_; simp -implicitDefEqProofs only [BB, Int.reduceEq, Int.reduceNe, Int.reduceLT, Int.reduceLE, Int.reduceGT, Int.reduceGE, Nat.reduceEqDiff, Nat.reduceAdd, Nat.reduceMul, Nat.reduceLeDiff, Nat.reduceSub, Nat.reduceLT, Nat.reduceBEq, ↓reduceIte, reduceCtorEq, ← decide_not, okind, vpre, vpure, intBin, intPre, strBin, strPre, popTo, argSlots, fldV, fldAV, subCells, idxVV, idxAAV, idxSV, sliceV, sliceSV, boundV, szIs, storeOp, storeS, setRowV, eff, extV, buildV, splice, eqSV, fitsL, eqCells, eqCell, minmaxV, capV, binBV, nilCheckV, bytesV, V.cells, V.stays, Orc.nothing, c47])
  refine Runs.call rfl rfl rfl (clone_c l hl1 _) ?_
  rintro r σ1 ⟨hsub, hout⟩
  have hlen := hout.len
  rw [List.length_map] at hlen
  (refine Runs.of_step Orc.nothing 300 ?_; simp -implicitDefEqProofs only [BB, Int.reduceEq, Int.reduceNe, Int.reduceLT, Int.reduceLE, Int.reduceGT, Int.reduceGE, Nat.reduceEqDiff, Nat.reduceAdd, Nat.reduceMul, Nat.reduceLeDiff, Nat.reduceSub, Nat.reduceLT, Nat.reduceBEq, ↓reduceIte, reduceCtorEq, ← decide_not, okind, vpre, vpure, intBin, intPre, strBin, strPre, popTo, argSlots, fldV, fldAV, subCells, idxVV, idxAAV, idxSV, sliceV, sliceSV, boundV, szIs, storeOp, storeS, setRowV, eff, extV, buildV, splice, eqSV, fitsL, eqCells, eqCell, minmaxV, capV, binBV, nilCheckV, bytesV, V.cells, V.stays, Orc.nothing, hlen])
  refine Runs.loop (fun m st => ∃ (i : Nat), i ≤ l.length ∧ m = l.length - i ∧ st.σ = σ1 ∧ st.s 3 = r ∧ st.s 8 = vI l.length ∧ st.s 9 = vI i) l.length ?_ ?_
  · exact ⟨0, by omega, rfl, rfl, rfl, rfl, rfl⟩
  · rintro m ⟨s, σ'⟩ ⟨i, hi, rfl, hσ, h3, h8, h9⟩
    simp only at hσ h3 h8 h9
    subst hσ
    refine Runs.mix 10 ?_
    have hend : i = l.length → RetV r σ' fun r σ' => SubStore σ σ' ∧ OutV σ σ' 28 20 r (l.map encN) := fun _ =>
      ⟨_, _, SubStore.refl _, Wk.refl (SubStore.refl _) _, hsub, hout⟩
    have hout' := hout
    rcases hout' with ⟨rfl, hr0⟩ | ⟨id, rfl, ho, hk⟩
    · have hl0 : l = [] := by cases l with | nil => rfl | cons a b => simp at hr0
      subst hl0
      (refine Runs.of_step Orc.nothing 300 ?_; simp -implicitDefEqProofs only [BB, Int.reduceEq, Int.reduceNe, Int.reduceLT, Int.reduceLE, Int.reduceGT, Int.reduceGE, Nat.reduceEqDiff, Nat.reduceAdd, Nat.reduceMul, Nat.reduceLeDiff, Nat.reduceSub, Nat.reduceLT, Nat.reduceBEq, ↓reduceIte, reduceCtorEq, ← decide_not, okind, vpre, vpure, intBin, intPre, strBin, strPre, popTo, argSlots, fldV, fldAV, subCells, idxVV, idxAAV, idxSV, sliceV, sliceSV, boundV, szIs, storeOp, storeS, setRowV, eff, extV, buildV, splice, eqSV, fitsL, eqCells, eqCell, minmaxV, capV, binBV, nilCheckV, bytesV, V.cells, V.stays, Orc.nothing, h3, h8, h9])
      exact ⟨fun h => by simp at h; omega, fun _ => hend (by simpa using hi)⟩
    · rw [List.length_map] at h3 hend
      (refine Runs.of_step Orc.nothing 40 ?_; simp -implicitDefEqProofs only [BB, Int.reduceEq, Int.reduceNe, Int.reduceLT, Int.reduceLE, Int.reduceGT, Int.reduceGE, Nat.reduceEqDiff, Nat.reduceAdd, Nat.reduceMul, Nat.reduceLeDiff, Nat.reduceSub, Nat.reduceLT, Nat.reduceBEq, ↓reduceIte, reduceCtorEq, ← decide_not, okind, vpre, vpure, intBin, intPre, strBin, strPre, popTo, argSlots, fldV, fldAV, subCells, idxVV, idxAAV, idxSV, sliceV, sliceSV, boundV, szIs, storeOp, storeS, setRowV, eff, extV, buildV, splice, eqSV, fitsL, eqCells, eqCell, minmaxV, capV, binBV, nilCheckV, bytesV, V.cells, V.stays, s_zero, Orc.nothing, h3, h8, h9])
      refine And.intro (fun h => ?_) (fun h => ?_)
      · have hlt : i < l.length := by omega
        have hrow : (l.map encN)[i]? = some (encN l[i]) := by simp [hlt]
        have hset : (l.map encN).set i (encN l[i]) = l.map encN := by
          have : (l.map encN)[i]'(by simpa using hlt) = encN l[i] := by simp
          rw [← this, List.set_getElem_self]
        have hc : (0 : Int) ≤ (i : Int) ∧ (i : Int) < l.length := by omega
        have hw := hl2 _ (List.getElem_mem hlt)
        generalize hxe : l[i] = x at *
        have hrow' : (l.map encN)[i]? = some (.agg x.cells) := hrow
        simp -implicitDefEqProofs only [BB, Int.reduceEq, Int.reduceNe, Int.reduceLT, Int.reduceLE, Int.reduceGT, Int.reduceGE, Nat.reduceEqDiff, Nat.reduceAdd, Nat.reduceMul, Nat.reduceLeDiff, Nat.reduceSub, Nat.reduceLT, Nat.reduceBEq, ↓reduceIte, reduceCtorEq, ← decide_not, okind, vpre, vpure, intBin, intPre, strBin, strPre, popTo, argSlots, fldV, fldAV, subCells, idxVV, idxAAV, idxSV, sliceV, sliceSV, boundV, szIs, storeOp, storeS, setRowV, eff, extV, buildV, splice, eqSV, fitsL, eqCells, eqCell, minmaxV, capV, binBV, nilCheckV, bytesV, V.cells, V.stays, ho, hc, hrow', Nd.cells, h3, h8, h9, Int.toNat_natCast, s_zero]
        refine Runs.pcall rfl rfl rfl (cloneI_c x.words hw _) ?_
        have hset' := hset
        simp only [encN, Nd.cells, encI] at hset'
        (refine Runs.of_step Orc.nothing 300 ?_; simp -implicitDefEqProofs only [BB, Int.reduceEq, Int.reduceNe, Int.reduceLT, Int.reduceLE, Int.reduceGT, Int.reduceGE, Nat.reduceEqDiff, Nat.reduceAdd, Nat.reduceMul, Nat.reduceLeDiff, Nat.reduceSub, Nat.reduceLT, Nat.reduceBEq, ↓reduceIte, reduceCtorEq, ← decide_not, okind, vpre, vpure, intBin, intPre, strBin, strPre, popTo, argSlots, fldV, fldAV, subCells, idxVV, idxAAV, idxSV, sliceV, sliceSV, boundV, szIs, storeOp, storeS, setRowV, eff, extV, buildV, splice, eqSV, fitsL, eqCells, eqCell, minmaxV, capV, binBV, nilCheckV, bytesV, V.cells, V.stays, Orc.nothing, ho, hc, hrow', Nd.cells, encI, hset', upd_self ho, h3, h8, h9, Int.toNat_natCast])
        exact ⟨inR_i64 (by omega) (by omega), _, by omega, i + 1, by omega, rfl, by rw [List.length_map], by simp⟩
      · exact hend (by omega)
theorem own9_c (l : List Nd) (hl : Sml l) : PFun Try.prog 47 [encNs l] (encNs l) := fun σ =>
  (own9_o l hl σ).weak fun _ _ h => h.2.retv h.1 rfl
end Go.Vc
namespace Go.Vc
open Go.Proofs
set_option maxRecDepth 100000 in
theorem equal_c (a b : List Int) (ha : a.length ≤ 200000000000000) : PFun Try.prog 80 [encI a, encI b] (.bool (decide (a = b))) := fun σ => by
  refine Contract.of_runs Try.func80 e80 k80 (by simp [c80]) ?_
  refine Runs.mix 14 ?_
  (refine Runs.of_step Orc.nothing 300 ?_; simp -implicitDefEqProofs only [BB, effR_some, effD_some, Int.reduceEq, Int.reduceNe, Int.reduceLT, Int.reduceLE, Int.reduceGT, Int.reduceGE, Nat.reduceEqDiff, Nat.reduceAdd, Nat.reduceMul, Nat.reduceLeDiff, Nat.reduceSub, Nat.reduceLT, Nat.reduceBEq, ↓reduceIte, reduceCtorEq, ← decide_not, okind, vpre, vpure, intBin, intPre, strBin, strPre, popTo, argSlots, fldV, fldAV, subCells, idxVV, idxAAV, idxSV, sliceV, sliceSV, boundV, szIs, storeOp, storeS, setRowV, eff, extV, buildV, splice, eqSV, fitsL, eqCells, eqCell, minmaxV, capV, binBV, nilCheckV, bytesV, V.cells, V.stays, Orc.nothing, c80, lenV_encI])
  refine And.intro (fun h => ?_) (fun h => ?_)
  · refine RetV.same ?_
    rw [V.bool.injEq]; symm
    rw [decide_eq_false_iff_not]
    rintro rfl
    simp at h
  · have hl : a.length = b.length := by
      have : (a.length : Int) = b.length := by simpa using h
      omega
    refine Runs.loop (fun m st => ∃ i : Nat, i ≤ a.length ∧ m = a.length - i ∧ a.take i = b.take i ∧ st.σ = σ ∧ st.s 0 = encI a ∧ st.s 1 = encI b ∧ st.s 12 = vI a.length ∧ st.s 13 = vI i) a.length ?_ ?_
    · exact ⟨0, by omega, by omega, rfl, rfl, rfl, rfl, rfl, rfl⟩
    · rintro m ⟨s, σ'⟩ ⟨i, hi, rfl, ht, hσ, h0, h1, h12, h13⟩
      simp only at hσ h0 h1 h12 h13
      subst hσ
      refine Runs.mix 14 ?_
      (refine Runs.of_step Orc.nothing 300 ?_; simp -implicitDefEqProofs only [BB, effR_some, effD_some, Int.reduceEq, Int.reduceNe, Int.reduceLT, Int.reduceLE, Int.reduceGT, Int.reduceGE, Nat.reduceEqDiff, Nat.reduceAdd, Nat.reduceMul, Nat.reduceLeDiff, Nat.reduceSub, Nat.reduceLT, Nat.reduceBEq, ↓reduceIte, reduceCtorEq, ← decide_not, okind, vpre, vpure, intBin, intPre, strBin, strPre, popTo, argSlots, fldV, fldAV, subCells, idxVV, idxAAV, idxSV, sliceV, sliceSV, boundV, szIs, storeOp, storeS, setRowV, eff, extV, buildV, splice, eqSV, fitsL, eqCells, eqCell, minmaxV, capV, binBV, nilCheckV, bytesV, V.cells, V.stays, Orc.nothing, h0, h1, h12, h13])
      refine And.intro (fun hlt => ?_) (fun hge => ?_)
      · have hlt' : i < a.length := by omega
        have hlt2 : i < b.length := by omega
        simp -implicitDefEqProofs only [BB, effR_some, effD_some, Int.reduceEq, Int.reduceNe, Int.reduceLT, Int.reduceLE, Int.reduceGT, Int.reduceGE, Nat.reduceEqDiff, Nat.reduceAdd, Nat.reduceMul, Nat.reduceLeDiff, Nat.reduceSub, Nat.reduceLT, Nat.reduceBEq, ↓reduceIte, reduceCtorEq, ← decide_not, okind, vpre, vpure, intBin, intPre, strBin, strPre, popTo, argSlots, fldV, fldAV, subCells, idxVV, idxAAV, idxSV, sliceV, sliceSV, boundV, szIs, storeOp, storeS, setRowV, eff, extV, buildV, splice, eqSV, fitsL, eqCells, eqCell, minmaxV, capV, binBV, nilCheckV, bytesV, V.cells, V.stays, idxAV_encI hlt', idxAV_encI hlt2, h0, h1, h12, h13]
        refine And.intro (fun hd => ?_) (fun hd => ?_)
        · refine RetV.same ?_
          rw [V.bool.injEq]; symm
          rw [decide_eq_false_iff_not]
          rintro rfl
          exact hd rfl
        · refine ⟨inR_i64 (by omega) (by omega), _, ?_, i + 1, by omega, rfl, ?_, by simp⟩
          · omega
          · rw [List.take_succ_eq_append_getElem hlt', List.take_succ_eq_append_getElem hlt2, ht]
            have : a[i] = b[i] := by simpa using hd
            rw [this]
      · have hie : i = a.length := by omega
        refine RetV.same ?_
        rw [V.bool.injEq]; symm
        rw [decide_eq_true_eq]
        rw [hie, List.take_length] at ht
        rw [ht, hl, List.take_length]
set_option maxRecDepth 100000 in
theorem one9_c (a b : Nd) (ha : a.words.length ≤ 200000000000000) : PFun Try.prog 79 [encN a, encN b] (.bool (decide (a = b))) := fun σ => by
  refine Contract.of_runs Try.func79 e79 k79 (by simp [c79]) ?_
  refine Runs.mix 6 ?_
  (refine Runs.of_step Orc.nothing 300 ?_; simp -implicitDefEqProofs only [BB, Int.reduceEq, Int.reduceNe, Int.reduceLT, Int.reduceLE, Int.reduceGT, Int.reduceGE, Nat.reduceEqDiff, Nat.reduceAdd, Nat.reduceMul, Nat.reduceLeDiff, Nat.reduceSub, Nat.reduceLT, Nat.reduceBEq, ↓reduceIte, reduceCtorEq, ← decide_not, okind, vpre, vpure, intBin, intPre, strBin, strPre, popTo, argSlots, fldV, fldAV, subCells, idxVV, idxAAV, idxSV, sliceV, sliceSV, boundV, szIs, storeOp, storeS, setRowV, eff, extV, buildV, splice, eqSV, fitsL, eqCells, eqCell, minmaxV, capV, binBV, nilCheckV, bytesV, V.cells, V.stays, Orc.nothing, c79, encN, Nd.cells])
  refine effR_new fun id2 σ1 s1 a2 f2 => ?_
  simp -implicitDefEqProofs only [BB, Int.reduceEq, Int.reduceNe, Int.reduceLT, Int.reduceLE, Int.reduceGT, Int.reduceGE, Nat.reduceEqDiff, Nat.reduceAdd, Nat.reduceMul, Nat.reduceLeDiff, Nat.reduceSub, Nat.reduceLT, Nat.reduceBEq, ↓reduceIte, reduceCtorEq, ← decide_not, okind, vpre, vpure, intBin, intPre, strBin, strPre, popTo, argSlots, fldV, fldAV, subCells, idxVV, idxAAV, idxSV, sliceV, sliceSV, boundV, szIs, storeOp, storeS, setRowV, eff, extV, buildV, splice, eqSV, fitsL, eqCells, eqCell, minmaxV, capV, binBV, nilCheckV, bytesV, V.cells, V.stays, a2]
  refine effR_new fun id3 σ2 s2 a3 f3 => ?_
  have n23 := ne_new a2 f3
  have a2 := s2 _ _ a2
  have hs := s1.trans s2
  simp -implicitDefEqProofs only [BB, Int.reduceEq, Int.reduceNe, Int.reduceLT, Int.reduceLE, Int.reduceGT, Int.reduceGE, Nat.reduceEqDiff, Nat.reduceAdd, Nat.reduceMul, Nat.reduceLeDiff, Nat.reduceSub, Nat.reduceLT, Nat.reduceBEq, ↓reduceIte, reduceCtorEq, ← decide_not, okind, vpre, vpure, intBin, intPre, strBin, strPre, popTo, argSlots, fldV, fldAV, subCells, idxVV, idxAAV, idxSV, sliceV, sliceSV, boundV, szIs, storeOp, storeS, setRowV, eff, extV, buildV, splice, eqSV, fitsL, eqCells, eqCell, minmaxV, capV, binBV, nilCheckV, bytesV, V.cells, V.stays, a2, a3]
  refine Runs.pcall rfl rfl rfl (equal_c a.words b.words ha _) ?_
  by_cases hw : a.words = b.words
  · have hwt : decide (a.words = b.words) = true := decide_eq_true hw
    (refine Runs.of_step Orc.nothing 300 ?_; simp -implicitDefEqProofs only [BB, Int.reduceEq, Int.reduceNe, Int.reduceLT, Int.reduceLE, Int.reduceGT, Int.reduceGE, Nat.reduceEqDiff, Nat.reduceAdd, Nat.reduceMul, Nat.reduceLeDiff, Nat.reduceSub, Nat.reduceLT, Nat.reduceBEq, ↓reduceIte, reduceCtorEq, ← decide_not, okind, vpre, vpure, intBin, intPre, strBin, strPre, popTo, argSlots, fldV, fldAV, subCells, idxVV, idxAAV, idxSV, sliceV, sliceSV, boundV, szIs, storeOp, storeS, setRowV, eff, extV, buildV, splice, eqSV, fitsL, eqCells, eqCell, minmaxV, capV, binBV, nilCheckV, bytesV, V.cells, V.stays, Orc.nothing, hwt, a2, a3, styEq])
    refine And.intro (fun c1 => And.intro (fun c2 => And.intro (fun c3 => And.intro (fun c4 => And.intro (fun c5 => And.intro (fun c6 => And.intro (fun c7 => ?_) (fun c7 => ?_)) (fun c6 => ?_)) (fun c5 => ?_)) (fun c4 => ?_)) (fun c3 => ?_)) (fun c2 => ?_)) (fun c1 => ?_)
    all_goals (refine RetV.pure hs ?_; rw [V.bool.injEq])
    · rw [Bool.eq_iff_iff, decide_eq_true_eq, decide_eq_true_eq]
      cases a; cases b; simp_all
    all_goals (symm; rw [decide_eq_false_iff_not]; rintro rfl; simp at *)
  · have hwt : decide (a.words = b.words) = false := decide_eq_false hw
    (refine Runs.of_step Orc.nothing 300 ?_; simp -implicitDefEqProofs only [BB, Int.reduceEq, Int.reduceNe, Int.reduceLT, Int.reduceLE, Int.reduceGT, Int.reduceGE, Nat.reduceEqDiff, Nat.reduceAdd, Nat.reduceMul, Nat.reduceLeDiff, Nat.reduceSub, Nat.reduceLT, Nat.reduceBEq, ↓reduceIte, reduceCtorEq, ← decide_not, okind, vpre, vpure, intBin, intPre, strBin, strPre, popTo, argSlots, fldV, fldAV, subCells, idxVV, idxAAV, idxSV, sliceV, sliceSV, boundV, szIs, storeOp, storeS, setRowV, eff, extV, buildV, splice, eqSV, fitsL, eqCells, eqCell, minmaxV, capV, binBV, nilCheckV, bytesV, V.cells, V.stays, Orc.nothing, hwt, a2, a3, styEq])
    refine RetV.pure hs ?_
    rw [V.bool.injEq]; symm
    rw [decide_eq_false_iff_not]; rintro rfl; exact hw rfl
end Go.Vc
namespace Go.Vc
open Go.Proofs
set_option maxRecDepth 100000 in
theorem eqf_c (a b : List Nd) (ha : Fine a) (hb : Fine b) : PFun Try.prog 78 [encNs a, encNs b, .fn 79 []] (.bool (decide (a = b))) := fun σ => by
  have hal := ha.1
  refine Contract.of_runs Try.func78 e78 k78 (by simp [c78]) ?_
  refine Runs.mix 18 ?_
  (refine Runs.of_step Orc.nothing 300 ?_; simp -implicitDefEqProofs only [BB, Int.reduceEq, Int.reduceNe, Int.reduceLT, Int.reduceLE, Int.reduceGT, Int.reduceGE, Nat.reduceEqDiff, Nat.reduceAdd, Nat.reduceMul, Nat.reduceLeDiff, Nat.reduceSub, Nat.reduceLT, Nat.reduceBEq, ↓reduceIte, reduceCtorEq, ← decide_not, okind, vpre, vpure, intBin, intPre, strBin, strPre, popTo, argSlots, fldV, fldAV, subCells, idxVV, idxAAV, idxSV, sliceV, sliceSV, boundV, szIs, storeOp, storeS, setRowV, eff, extV, buildV, splice, eqSV, fitsL, eqCells, eqCell, minmaxV, capV, binBV, nilCheckV, bytesV, V.cells, V.stays, Orc.nothing, c78, lenV_encNs])
  refine And.intro (fun hl => ?_) (fun hl => ?_)
  · refine RetV.same ?_
    rw [V.bool.injEq]; symm
    rw [decide_eq_false_iff_not]
    rintro rfl
    simp at hl
  · have hl : a.length = b.length := by
      have : (a.length : Int) = b.length := by simpa using hl
      omega
    refine Runs.loop (fun m st => ∃ i : Nat, i ≤ a.length ∧ m = a.length - i ∧ a.take i = b.take i ∧ SubStore σ st.σ ∧ st.s 1 = encNs b ∧ st.s 2 = .fn 79 [] ∧ st.s 15 = encNs a ∧ st.s 16 = vI a.length ∧ st.s 17 = vI i) a.length ?_ ?_
    · exact ⟨0, by omega, by omega, rfl, SubStore.refl _, rfl, rfl, rfl, rfl, rfl⟩
    · rintro m ⟨s, σ'⟩ ⟨i, hi, rfl, ht, hsub, h1, h2, h15, h16, h17⟩
      simp only at hsub h1 h2 h15 h16 h17
      refine Runs.mix 18 ?_
      (refine Runs.of_step Orc.nothing 300 ?_; simp -implicitDefEqProofs only [BB, Int.reduceEq, Int.reduceNe, Int.reduceLT, Int.reduceLE, Int.reduceGT, Int.reduceGE, Nat.reduceEqDiff, Nat.reduceAdd, Nat.reduceMul, Nat.reduceLeDiff, Nat.reduceSub, Nat.reduceLT, Nat.reduceBEq, ↓reduceIte, reduceCtorEq, ← decide_not, okind, vpre, vpure, intBin, intPre, strBin, strPre, popTo, argSlots, fldV, fldAV, subCells, idxVV, idxAAV, idxSV, sliceV, sliceSV, boundV, szIs, storeOp, storeS, setRowV, eff, extV, buildV, splice, eqSV, fitsL, eqCells, eqCell, minmaxV, capV, binBV, nilCheckV, bytesV, V.cells, V.stays, Orc.nothing, h1, h2, h15, h16, h17])
      refine And.intro (fun hlt => ?_) (fun hge => ?_)
      · have hlt' : i < a.length := by omega
        have hlt2 : i < b.length := by omega
        have hx := ha.2 _ (List.getElem_mem hlt')
        have hy := hb.2 _ (List.getElem_mem hlt2)
        have hta := List.take_succ_eq_append_getElem hlt'
        have htb := List.take_succ_eq_append_getElem hlt2
        have hxe : a[i]? = some a[i] := by simp [hlt']
        have hye : b[i]? = some b[i] := by simp [hlt2]
        generalize hxg : a[i] = x at *
        generalize hyg : b[i] = y at *
        simp -implicitDefEqProofs only [BB, Int.reduceEq, Int.reduceNe, Int.reduceLT, Int.reduceLE, Int.reduceGT, Int.reduceGE, Nat.reduceEqDiff, Nat.reduceAdd, Nat.reduceMul, Nat.reduceLeDiff, Nat.reduceSub, Nat.reduceLT, Nat.reduceBEq, ↓reduceIte, reduceCtorEq, ← decide_not, okind, vpre, vpure, intBin, intPre, strBin, strPre, popTo, argSlots, fldV, fldAV, subCells, idxVV, idxAAV, idxSV, sliceV, sliceSV, boundV, szIs, storeOp, storeS, setRowV, eff, extV, buildV, splice, eqSV, fitsL, eqCells, eqCell, minmaxV, capV, binBV, nilCheckV, bytesV, V.cells, V.stays, idxAV_encNs hlt', idxAV_encNs hlt2, hxg, hyg, Nd.cells, h1, h2, h15, h16, h17]
        refine effR_new fun id1 σ1 s1 a1 f1 => ?_
        simp -implicitDefEqProofs only [BB, Int.reduceEq, Int.reduceNe, Int.reduceLT, Int.reduceLE, Int.reduceGT, Int.reduceGE, Nat.reduceEqDiff, Nat.reduceAdd, Nat.reduceMul, Nat.reduceLeDiff, Nat.reduceSub, Nat.reduceLT, Nat.reduceBEq, ↓reduceIte, reduceCtorEq, ← decide_not, okind, vpre, vpure, intBin, intPre, strBin, strPre, popTo, argSlots, fldV, fldAV, subCells, idxVV, idxAAV, idxSV, sliceV, sliceSV, boundV, szIs, storeOp, storeS, setRowV, eff, extV, buildV, splice, eqSV, fitsL, eqCells, eqCell, minmaxV, capV, binBV, nilCheckV, bytesV, V.cells, V.stays, a1, idxAV_encNs hlt', idxAV_encNs hlt2, hxg, hyg, Nd.cells, encI_cells, encI_stays, h1, h2, h15, h16, h17]
        refine effR_new fun id2 σ2 s2 a2 f2 => ?_
        have n12 : id1 ≠ id2 := by rintro rfl; rw [upd_same] at f2; cases f2
        have a1' := s2 id1 _ upd_same
        have hs2 := ((hsub.trans s1).updK (hsub.none f1)).trans s2
        have g2 := ((hsub.trans s1).updK (hsub.none f1)).none f2
        simp -implicitDefEqProofs only [BB, Int.reduceEq, Int.reduceNe, Int.reduceLT, Int.reduceLE, Int.reduceGT, Int.reduceGE, Nat.reduceEqDiff, Nat.reduceAdd, Nat.reduceMul, Nat.reduceLeDiff, Nat.reduceSub, Nat.reduceLT, Nat.reduceBEq, ↓reduceIte, reduceCtorEq, ← decide_not, okind, vpre, vpure, intBin, intPre, strBin, strPre, popTo, argSlots, fldV, fldAV, subCells, idxVV, idxAAV, idxSV, sliceV, sliceSV, boundV, szIs, storeOp, storeS, setRowV, eff, extV, buildV, splice, eqSV, fitsL, eqCells, eqCell, minmaxV, capV, binBV, nilCheckV, bytesV, V.cells, V.stays, a1', a2, upd_ne n12, encI_cells, encI_stays, h1, h2, h15, h16, h17]
        refine Runs.pcall rfl rfl rfl (one9_c x y hx _) ?_
        by_cases hd : x = y
        · have hdt : decide (x = y) = true := decide_eq_true hd
          (refine Runs.of_step Orc.nothing 300 ?_; simp -implicitDefEqProofs only [BB, Int.reduceEq, Int.reduceNe, Int.reduceLT, Int.reduceLE, Int.reduceGT, Int.reduceGE, Nat.reduceEqDiff, Nat.reduceAdd, Nat.reduceMul, Nat.reduceLeDiff, Nat.reduceSub, Nat.reduceLT, Nat.reduceBEq, ↓reduceIte, reduceCtorEq, ← decide_not, okind, vpre, vpure, intBin, intPre, strBin, strPre, popTo, argSlots, fldV, fldAV, subCells, idxVV, idxAAV, idxSV, sliceV, sliceSV, boundV, szIs, storeOp, storeS, setRowV, eff, extV, buildV, splice, eqSV, fitsL, eqCells, eqCell, minmaxV, capV, binBV, nilCheckV, bytesV, V.cells, V.stays, Orc.nothing, hdt, h1, h2, h15, h16, h17])
          refine ⟨inR_i64 (by omega) (by omega), _, ?_, i + 1, by omega, rfl, ?_, hs2.updK g2, by simp⟩
          · omega
          · rw [hta, htb, ht, hd]
        · have hdt : decide (x = y) = false := decide_eq_false hd
          (refine Runs.of_step Orc.nothing 300 ?_; simp -implicitDefEqProofs only [BB, Int.reduceEq, Int.reduceNe, Int.reduceLT, Int.reduceLE, Int.reduceGT, Int.reduceGE, Nat.reduceEqDiff, Nat.reduceAdd, Nat.reduceMul, Nat.reduceLeDiff, Nat.reduceSub, Nat.reduceLT, Nat.reduceBEq, ↓reduceIte, reduceCtorEq, ← decide_not, okind, vpre, vpure, intBin, intPre, strBin, strPre, popTo, argSlots, fldV, fldAV, subCells, idxVV, idxAAV, idxSV, sliceV, sliceSV, boundV, szIs, storeOp, storeS, setRowV, eff, extV, buildV, splice, eqSV, fitsL, eqCells, eqCell, minmaxV, capV, binBV, nilCheckV, bytesV, V.cells, V.stays, Orc.nothing, hdt, h1, h2, h15, h16, h17])
          refine RetV.pure (hs2.updK g2) ?_
          rw [V.bool.injEq]; symm
          rw [decide_eq_false_iff_not]
          rintro rfl
          rw [hxe] at hye
          simp at hye
          exact hd hye
      · have hie : i = a.length := by omega
        refine RetV.pure hsub ?_
        rw [V.bool.injEq]; symm
        rw [decide_eq_true_eq]
        rw [hie, List.take_length] at ht
        rw [ht, hl, List.take_length]
set_option maxRecDepth 100000 in
theorem same9_c (a b : List Nd) (ha : Fine a) (hb : Fine b) : PFun Try.prog 52 [encNs a, encNs b] (.bool (decide (a = b))) := fun σ => by
  refine Contract.of_runs Try.func52 e52 k52 (by simp [c52]) ?_
  refine Runs.mix 5 ?_
  (refine Runs.of_step Orc.nothing 300 ?_; simp -implicitDefEqProofs only [BB, effR_some, effD_some, Int.reduceEq, Int.reduceNe, Int.reduceLT, Int.reduceLE, Int.reduceGT, Int.reduceGE, Nat.reduceEqDiff, Nat.reduceAdd, Nat.reduceMul, Nat.reduceLeDiff, Nat.reduceSub, Nat.reduceLT, Nat.reduceBEq, ↓reduceIte, reduceCtorEq, ← decide_not, okind, vpre, vpure, intBin, intPre, strBin, strPre, popTo, argSlots, fldV, fldAV, subCells, idxVV, idxAAV, idxSV, sliceV, sliceSV, boundV, szIs, storeOp, storeS, setRowV, eff, extV, buildV, splice, eqSV, fitsL, eqCells, eqCell, minmaxV, capV, binBV, nilCheckV, bytesV, V.cells, V.stays, Orc.nothing, c52])
  refine Runs.pcall rfl rfl rfl (eqf_c a b ha hb _) ?_
  (refine Runs.of_step Orc.nothing 300 ?_; simp -implicitDefEqProofs only [BB, effR_some, effD_some, Int.reduceEq, Int.reduceNe, Int.reduceLT, Int.reduceLE, Int.reduceGT, Int.reduceGE, Nat.reduceEqDiff, Nat.reduceAdd, Nat.reduceMul, Nat.reduceLeDiff, Nat.reduceSub, Nat.reduceLT, Nat.reduceBEq, ↓reduceIte, reduceCtorEq, ← decide_not, okind, vpre, vpure, intBin, intPre, strBin, strPre, popTo, argSlots, fldV, fldAV, subCells, idxVV, idxAAV, idxSV, sliceV, sliceSV, boundV, szIs, storeOp, storeS, setRowV, eff, extV, buildV, splice, eqSV, fitsL, eqCells, eqCell, minmaxV, capV, binBV, nilCheckV, bytesV, V.cells, V.stays, Orc.nothing])
  exact RetV.same rfl
theorem edEq (x y : Ed) : x = y ↔ x.kind = y.kind ∧ x.into = y.into ∧ x.pos = y.pos ∧ x.many = y.many ∧ x.st = y.st ∧ x.sub = y.sub := by
  cases x; cases y; simp; intros; exact And.comm
set_option maxRecDepth 100000 in
theorem sameE_c (x y : Ed) (hx : Fine x.sub) (hy : Fine y.sub) : PFun Try.prog 23 [encE x, encE y] (.bool (decide (x = y))) := fun σ => by
  refine Contract.of_runs Try.func23 e23 k23 (by simp [c23]) ?_
  refine Runs.mix 5 ?_
  (refine Runs.of_step Orc.nothing 300 ?_; simp -implicitDefEqProofs only [BB, Int.reduceEq, Int.reduceNe, Int.reduceLT, Int.reduceLE, Int.reduceGT, Int.reduceGE, Nat.reduceEqDiff, Nat.reduceAdd, Nat.reduceMul, Nat.reduceLeDiff, Nat.reduceSub, Nat.reduceLT, Nat.reduceBEq, ↓reduceIte, reduceCtorEq, ← decide_not, okind, vpre, vpure, intBin, intPre, strBin, strPre, popTo, argSlots, fldV, fldAV, subCells, idxVV, idxAAV, idxSV, sliceV, sliceSV, boundV, szIs, storeOp, storeS, setRowV, eff, extV, buildV, splice, eqSV, fitsL, eqCells, eqCell, minmaxV, capV, binBV, nilCheckV, bytesV, V.cells, V.stays, Orc.nothing, c23, encE, Ed.cells, encNs_cells, encNs_stays])
  refine effR_new fun id2 σ1 s1 a2 f2 => ?_
  simp -implicitDefEqProofs only [BB, Int.reduceEq, Int.reduceNe, Int.reduceLT, Int.reduceLE, Int.reduceGT, Int.reduceGE, Nat.reduceEqDiff, Nat.reduceAdd, Nat.reduceMul, Nat.reduceLeDiff, Nat.reduceSub, Nat.reduceLT, Nat.reduceBEq, ↓reduceIte, reduceCtorEq, ← decide_not, okind, vpre, vpure, intBin, intPre, strBin, strPre, popTo, argSlots, fldV, fldAV, subCells, idxVV, idxAAV, idxSV, sliceV, sliceSV, boundV, szIs, storeOp, storeS, setRowV, eff, extV, buildV, splice, eqSV, fitsL, eqCells, eqCell, minmaxV, capV, binBV, nilCheckV, bytesV, V.cells, V.stays, a2, encNs_cells, encNs_stays]
  refine effR_new fun id3 σ2 s2 a3 f3 => ?_
  have n23 := ne_new a2 f3
  have a2 := s2 _ _ a2
  have hs := s1.trans s2
  simp -implicitDefEqProofs only [BB, Int.reduceEq, Int.reduceNe, Int.reduceLT, Int.reduceLE, Int.reduceGT, Int.reduceGE, Nat.reduceEqDiff, Nat.reduceAdd, Nat.reduceMul, Nat.reduceLeDiff, Nat.reduceSub, Nat.reduceLT, Nat.reduceBEq, ↓reduceIte, reduceCtorEq, ← decide_not, okind, vpre, vpure, intBin, intPre, strBin, strPre, popTo, argSlots, fldV, fldAV, subCells, idxVV, idxAAV, idxSV, sliceV, sliceSV, boundV, szIs, storeOp, storeS, setRowV, eff, extV, buildV, splice, eqSV, fitsL, eqCells, eqCell, minmaxV, capV, binBV, nilCheckV, bytesV, V.cells, V.stays, a2, a3, styEq, encNs_cells, encNs_stays]
  refine And.intro (fun c1 => And.intro (fun c2 => And.intro (fun c3 => And.intro (fun c4 => And.intro (fun c5 => ?_) (fun c5 => ?_)) (fun c4 => ?_)) (fun c3 => ?_)) (fun c2 => ?_)) (fun c1 => ?_)
  · refine Runs.pcall rfl rfl rfl (same9_c x.sub y.sub hx hy _) ?_
    (refine Runs.of_step Orc.nothing 300 ?_; simp -implicitDefEqProofs only [BB, Int.reduceEq, Int.reduceNe, Int.reduceLT, Int.reduceLE, Int.reduceGT, Int.reduceGE, Nat.reduceEqDiff, Nat.reduceAdd, Nat.reduceMul, Nat.reduceLeDiff, Nat.reduceSub, Nat.reduceLT, Nat.reduceBEq, ↓reduceIte, reduceCtorEq, ← decide_not, okind, vpre, vpure, intBin, intPre, strBin, strPre, popTo, argSlots, fldV, fldAV, subCells, idxVV, idxAAV, idxSV, sliceV, sliceSV, boundV, szIs, storeOp, storeS, setRowV, eff, extV, buildV, splice, eqSV, fitsL, eqCells, eqCell, minmaxV, capV, binBV, nilCheckV, bytesV, V.cells, V.stays, Orc.nothing])
    refine RetV.pure hs ?_
    rw [V.bool.injEq, Bool.eq_iff_iff, decide_eq_true_eq, decide_eq_true_eq, edEq]
    simp_all
  all_goals (refine RetV.pure hs ?_; rw [V.bool.injEq]; symm; rw [decide_eq_false_iff_not]; rintro rfl; simp at *)
set_option maxRecDepth 100000 in
theorem own8_c (l : List Nd) (hl : Sml l) : PFun Try.prog 49 [encNs l] (encNs l) := fun σ => by
  refine Contract.of_runs Try.func49 e49 k49 (by simp [c49]) ?_
  refine Runs.mix 3 ?_
  (refine Runs.of_step Orc.nothing 300 ?_; simp -implicitDefEqProofs only [BB, effR_some, effD_some, Int.reduceEq, Int.reduceNe, Int.reduceLT, Int.reduceLE, Int.reduceGT, Int.reduceGE, Nat.reduceEqDiff, Nat.reduceAdd, Nat.reduceMul, Nat.reduceLeDiff, Nat.reduceSub, Nat.reduceLT, Nat.reduceBEq, ↓reduceIte, reduceCtorEq, ← decide_not, okind, vpre, vpure, intBin, intPre, strBin, strPre, popTo, argSlots, fldV, fldAV, subCells, idxVV, idxAAV, idxSV, sliceV, sliceSV, boundV, szIs, storeOp, storeS, setRowV, eff, extV, buildV, splice, eqSV, fitsL, eqCells, eqCell, minmaxV, capV, binBV, nilCheckV, bytesV, V.cells, V.stays, Orc.nothing, c49])
  refine Runs.pcall rfl rfl rfl (own_c l hl _) ?_
  (refine Runs.of_step Orc.nothing 300 ?_; simp -implicitDefEqProofs only [BB, effR_some, effD_some, Int.reduceEq, Int.reduceNe, Int.reduceLT, Int.reduceLE, Int.reduceGT, Int.reduceGE, Nat.reduceEqDiff, Nat.reduceAdd, Nat.reduceMul, Nat.reduceLeDiff, Nat.reduceSub, Nat.reduceLT, Nat.reduceBEq, ↓reduceIte, reduceCtorEq, ← decide_not, okind, vpre, vpure, intBin, intPre, strBin, strPre, popTo, argSlots, fldV, fldAV, subCells, idxVV, idxAAV, idxSV, sliceV, sliceSV, boundV, szIs, storeOp, storeS, setRowV, eff, extV, buildV, splice, eqSV, fitsL, eqCells, eqCell, minmaxV, capV, binBV, nilCheckV, bytesV, V.cells, V.stays, Orc.nothing])
  exact RetV.same rfl
set_option maxRecDepth 100000 in
theorem tops_c (l : List Nd) (hl : Fine l) (hb : isB l = true) : PFun Try.prog 46 [encNs l] (vI (kidsR l (-1)).length) := fun σ => by
  refine Contract.of_runs Try.func46 e46 k46 (by simp [c46]) ?_
  refine Runs.mix 3 ?_
  (refine Runs.of_step Orc.nothing 300 ?_; simp -implicitDefEqProofs only [BB, effR_some, effD_some, Int.reduceEq, Int.reduceNe, Int.reduceLT, Int.reduceLE, Int.reduceGT, Int.reduceGE, Nat.reduceEqDiff, Nat.reduceAdd, Nat.reduceMul, Nat.reduceLeDiff, Nat.reduceSub, Nat.reduceLT, Nat.reduceBEq, ↓reduceIte, reduceCtorEq, ← decide_not, okind, vpre, vpure, intBin, intPre, strBin, strPre, popTo, argSlots, fldV, fldAV, subCells, idxVV, idxAAV, idxSV, sliceV, sliceSV, boundV, szIs, storeOp, storeS, setRowV, eff, extV, buildV, splice, eqSV, fitsL, eqCells, eqCell, minmaxV, capV, binBV, nilCheckV, bytesV, V.cells, V.stays, Orc.nothing, c46])
  refine Runs.pcall rfl rfl rfl (kids9_p l hl hb (-1) (.inl rfl) _) ?_
  (refine Runs.of_step Orc.nothing 300 ?_; simp -implicitDefEqProofs only [BB, effR_some, effD_some, Int.reduceEq, Int.reduceNe, Int.reduceLT, Int.reduceLE, Int.reduceGT, Int.reduceGE, Nat.reduceEqDiff, Nat.reduceAdd, Nat.reduceMul, Nat.reduceLeDiff, Nat.reduceSub, Nat.reduceLT, Nat.reduceBEq, ↓reduceIte, reduceCtorEq, ← decide_not, okind, vpre, vpure, intBin, intPre, strBin, strPre, popTo, argSlots, fldV, fldAV, subCells, idxVV, idxAAV, idxSV, sliceV, sliceSV, boundV, szIs, storeOp, storeS, setRowV, eff, extV, buildV, splice, eqSV, fitsL, eqCells, eqCell, minmaxV, capV, binBV, nilCheckV, bytesV, V.cells, V.stays, Orc.nothing, lenV_encI])
  exact RetV.same rfl
end Go.Vc
namespace Go.Vc
open Go.Proofs
def Srt : Int → List Int → Prop
  | _, [] => True
  | a, q :: r => a ≤ q ∧ Srt (q + 1) r
theorem Srt.le {a b : Int} (h : b ≤ a) : ∀ {l : List Int}, Srt a l → Srt b l
  | [], _ => trivial
  | _ :: _, ⟨h1, h2⟩ => ⟨by omega, h2⟩
theorem Srt.ge {a : Int} : ∀ {l : List Int}, Srt a l → ∀ x ∈ l, a ≤ x
  | _ :: r, ⟨h1, h2⟩, x, hx => by
    rcases List.mem_cons.1 hx with rfl | hx
    · exact h1
    · have := Srt.ge h2 x hx; omega
/-- where a row begins and ends -/
def rowOfI (l : List Nd) (into : Int) : Nat × Nat := if into = -1 then (0, l.length) else (into.toNat + 1, into.toNat + (szI l into.toNat).toNat)
theorem rowOfI_facts {l : List Nd} (hb : isB l = true) {into : Int} (hin : into = -1 ∨ hasI l into = true) : ∃ a e : Nat, rowOfI l into = (a, e) ∧ (a : Int) = into + 1 ∧ a ≤ e ∧ e ≤ l.length ∧ rowsB l a e = true ∧ kidsR l into = kidsW l a e := by
  have hrows : rowsB l 0 l.length = true := by simp only [isB, Bool.and_eq_true] at hb; exact hb.2
  by_cases h : into = -1
  · subst h
    exact ⟨0, l.length, by simp [rowOfI], by omega, by omega, Nat.le_refl _, hrows, kidsR_top hb⟩
  · have hh : hasI l into = true := by rcases hin with h1 | h1; exact absurd h1 h; exact h1
    obtain ⟨p, rfl⟩ : ∃ p : Nat, into = p := ⟨into.toNat, by have := hasI_iff.1 hh; omega⟩
    have hp : p < l.length := by have := hasI_iff.1 hh; omega
    obtain ⟨z1, z2⟩ := szI_bound hb hp
    have hse := szI_eq hp
    obtain ⟨z3, _⟩ := rowsB_ends (Nat.le_refl _) hrows (Nat.zero_le p) hp
    have hin := rowsB_inner l (l.length + 1) 0 l.length (by omega) (Nat.le_refl _) hrows p (by omega) hp hp
    rw [← hse] at hin
    exact ⟨p + 1, p + (szI l p).toNat, by simp [rowOfI, h], by omega, by omega, by omega, hin, kidsR_in hb hp⟩
theorem kidsW_srt {l : List Nd} {e : Nat} (he : e ≤ l.length) : ∀ (m a : Nat), e - a < m → a ≤ e → rowsB l a e = true → Srt a (kidsW l a e ++ [(e : Int)]) ∧ (∀ x ∈ kidsW l a e, x < e) ∧ ∀ into : Int, (a : Int) = into + 1 → lastEnd l into (kidsW l a e) = e
  | 0, _, h, _, _ => by omega
  | m + 1, a, hm, hae, hr => by
    by_cases hlt : a < e
    · have hal : a < l.length := by omega
      obtain ⟨h1, h2⟩ := rowsB_ends he hr (Nat.le_refl a) hlt
      obtain ⟨h3, _⟩ := rowsB_next he hr hlt
      have hse := szI_eq hal
      have hz : ((szI l a).toNat : Int) = szI l a := by omega
      obtain ⟨g1, g2, g3⟩ := kidsW_srt he m (a + (szI l a).toNat) (by omega) (by omega) h3
      rw [kidsW_cons hlt hal (by omega), ← hse]
      refine ⟨⟨Int.le_refl _, g1.le (by omega)⟩, ?_, ?_⟩
      · intro x hx
        rcases List.mem_cons.1 hx with rfl | hx
        · omega
        · exact g2 x hx
      · intro into hinto
        have := g3 ((a : Int) + szI l a - 1) (by omega)
        rw [← this]
        simp only [lastEnd, List.foldl_cons, Int.toNat_natCast]
        congr 1
        omega
    · have : a = e := by omega
      subst this
      rw [kidsW_nil (Nat.le_refl _)]
      exact ⟨⟨Int.le_refl _, trivial⟩, by simp, fun into h => by rw [lastEnd_nil]; omega⟩
theorem placesR_eq {l : List Nd} (hb : isB l = true) {into : Int} (hin : into = -1 ∨ hasI l into = true) {a e : Nat} (h : rowOfI l into = (a, e)) : placesR l into = kidsW l a e ++ [(e : Int)] ∧ Srt (into + 1) (placesR l into) ∧ ∀ x ∈ placesR l into, x ≤ e := by
  obtain ⟨a', e', h1, h2, h3, h4, h5, h6⟩ := rowOfI_facts hb hin
  rw [h] at h1
  obtain ⟨rfl, rfl⟩ := Prod.mk.inj h1
  obtain ⟨g1, g2, g3⟩ := kidsW_srt h4 (e + 1) a (by omega) h3 h5
  have hp : placesR l into = kidsW l a e ++ [(e : Int)] := by rw [placesR, h6, g3 into h2]
  refine ⟨hp, ?_, ?_⟩
  · rw [hp, ← h2]; exact g1
  · rw [hp]
    intro x hx
    rcases List.mem_append.1 hx with hx | hx
    · have := g2 x hx; omega
    · simp at hx; omega
theorem Srt.lt_of_get {a : Int} : ∀ {l : List Int}, Srt a l → ∀ (i j : Nat) (x y : Int), i ≤ j → l[i]? = some x → l[j]? = some y → x + ((j : Int) - i) ≤ y
  | [], _, i, j, x, y, _, h, _ => by simp at h
  | q :: r, ⟨h1, h2⟩, 0, 0, x, y, _, hx, hy => by simp at hx hy; omega
  | q :: r, ⟨h1, h2⟩, 0, j + 1, x, y, _, hx, hy => by
    simp at hx hy
    have hj := (List.getElem?_eq_some_iff.1 hy).1
    have h0 : r[0]? = some r[0] := by simp [show 0 < r.length by omega]
    have := Srt.lt_of_get h2 0 j _ y (by omega) h0 hy
    have h3 := Srt.ge h2 _ (List.mem_of_getElem? h0)
    omega
  | q :: r, ⟨h1, h2⟩, i + 1, 0, x, y, h, _, _ => by omega
  | q :: r, ⟨h1, h2⟩, i + 1, j + 1, x, y, h, hx, hy => by
    simp at hx hy
    have := Srt.lt_of_get h2 i j x y (by omega) hx hy
    omega
theorem idxI_get {a : Int} : ∀ {p : List Int} {i : Nat}, 0 ≤ idxI a p i → p[(idxI a p i - i).toNat]? = some a ∧ (i : Int) ≤ idxI a p i
  | [], i, h => by simp [idxI] at h
  | q :: r, i, h => by
    rw [idxI] at h ⊢
    split
    · rename_i he; subst he; simp
    · rename_i hne
      rw [if_neg hne] at h
      obtain ⟨h1, h2⟩ := idxI_get h
      refine ⟨?_, by omega⟩
      have e1 : (idxI a r (i + 1) - (i : Int)).toNat = (idxI a r (i + 1) - ((i + 1 : Nat) : Int)).toNat + 1 := by omega
      rw [e1, List.getElem?_cons_succ]
      exact h1
/-- what goes lies in the row -/
theorem goneR_facts {l : List Nd} (hb : isB l = true) {into pos many from' to : Int} (h : goneR l into pos many = (from', to, true)) :
    from' = pos ∧ into + 1 ≤ pos ∧ pos ≤ to ∧ to ≤ l.length ∧ -1 ≤ into ∧ (into = -1 ∨ blockR l into = true) ∧ 0 ≤ many ∧
    ∃ k : Nat, (placesR l into)[k]? = some pos ∧ (placesR l into)[k + many.toNat]? = some to := by
  rw [goneR] at h
  split at h
  · cases h
  · rename_i hnb
    have hin : into = -1 ∨ blockR l into = true := by
      by_cases h1 : into = -1
      · exact .inl h1
      · right
        cases hbk : blockR l into
        · exact absurd ⟨h1, hbk⟩ hnb
        · rfl
    have hin2 : into = -1 ∨ hasI l into = true := hin.imp id fun h => by simp only [blockR, Bool.and_eq_true] at h; exact h.1
    have hi1 : -1 ≤ into := by
      rcases hin2 with h | h
      · omega
      · have := hasI_iff.1 h; omega
    split at h
    · cases h
    · rename_i hk
      obtain ⟨rfl, rfl, _⟩ : pos = from' ∧ ((placesR l into)[(idxI pos (placesR l into) 0 + many).toNat]?).getD 0 = to ∧ True := by
        simp only [Prod.mk.injEq, and_true] at h; exact ⟨h.1, h.2, trivial⟩
      obtain ⟨a, e, h1, h2, h3, h4, h5, h6⟩ := rowOfI_facts hb hin2
      obtain ⟨hp, hs, hle⟩ := placesR_eq hb hin2 h1
      obtain ⟨g1, g2⟩ := idxI_get (a := pos) (p := placesR l into) (i := 0) (by omega)
      have hr := idxI_range pos (placesR l into) 0
      generalize placesR l into = p at *
      generalize idxI pos p 0 = k at *
      have hk2 : (k + many).toNat < p.length := by omega
      have e1 : (k - ((0 : Nat) : Int)).toNat = k.toNat := by omega
      rw [e1] at g1
      have e2 : (k + many).toNat = k.toNat + many.toNat := by omega
      have hto : p[(k + many).toNat]? = some p[(k + many).toNat] := by simp [hk2]
      have hlt := Srt.lt_of_get hs k.toNat (k + many).toNat _ _ (by omega) g1 hto
      have hge := Srt.ge hs _ (List.mem_of_getElem? g1)
      have htl := hle _ (List.mem_of_getElem? hto)
      rw [hto, Option.getD_some]
      exact ⟨rfl, hge, by omega, by omega, hi1, hin, by omega, k.toNat, g1, by rw [← e2]; exact hto⟩
end Go.Vc
namespace Go.Vc
open Go.Proofs Go.RowKit
def Fin0 (μ : Mu) : Prop := ∃ N, ∀ id, N ≤ id → μ id = .unborn
theorem owned_nost {μ : Mu} {b : Nat} : ¬ Owned μ nost b := by
  rintro ⟨id, o, sz, cap, h, _⟩
  simp [nost] at h
theorem sat_nost {μ : Mu} (h : Fin0 μ) (w : World) : Sat w (Owned μ nost) μ nost w :=
  ⟨Nat.le_refl _, rfl, rfl, rfl, fun _ _ _ => rfl, h, fun _ _ _ _ _ _ _ _ _ h => by simp [nost] at h, fun _ _ h => by simp [nost] at h, fun _ h _ => absurd h owned_nost⟩
theorem PFun.run {P : Program} {f : FuncId} {us : List V} {v : V} (h : PFun P f us v) {w : World} {vals : List Value} {μ : Mu} (hμ : Fin0 μ) (hr : RepAll μ (Owned μ nost) w us vals) :
    Calls P f vals.toArray w fun e w' => ∃ val, e = .returned val ∧ Below w.heap.size w w' ∧ ∃ μ', Fin0 μ' ∧ Rep μ' (Owned μ' nost) w' v val := by
  refine ((h nost).2 μ w vals (sat_nost hμ w) hr).mono ?_
  rintro e w' ⟨r, σ', μ', val, h1, ⟨rfl, rfl⟩, h3, h4, h5⟩
  exact ⟨val, h1, ⟨h4.os, h4.tape, h4.output, h4.size, fun k hk => h4.same k hk owned_nost⟩, μ', h4.fin, h5⟩
/-- a value that is these nodes -/
def NodesAt (l : List Nd) (w : World) (x : Value) : Prop := ∃ μ, Fin0 μ ∧ Rep μ (Owned μ nost) w (encNs l) x
theorem NodesAt.below {l : List Nd} {w W : World} {x : Value} {B : Nat} (h : NodesAt l w x) (hB : w.heap.size ≤ B) (hb : Below B w W) : NodesAt l W x := by
  obtain ⟨μ, h1, h2⟩ := h
  exact ⟨μ, h1, Rep.mono (MuLe.refl μ) (fun b hb' _ => ⟨owned_nost, hb.block b (by omega)⟩) hb.size _ _ h2⟩
theorem has9_k {l : List Nd} {a : Int} {x : Value} {w : World} (hx : NodesAt l w x) : Calls Try.prog 94 #[x, .int .i64 a] w fun e w' => e = .returned (.bool (hasI l a)) ∧ Below w.heap.size w w' := by
  obtain ⟨μ, h1, h2⟩ := hx
  refine ((has9_c l a).run h1 (vals := [x, .int .i64 a]) (by simp only [RepAll]; exact ⟨_, _, rfl, h2, _, _, rfl, by simp [Rep], rfl⟩)).mono ?_
  rintro e w' ⟨val, rfl, hb, μ', _, hr⟩
  simp only [Rep] at hr
  exact ⟨by rw [hr], hb⟩
theorem parent9_k {l : List Nd} (hl : Fine l) (hb : isB l = true) {a : Nat} (ha : a < l.length) {x : Value} {w : World} (hx : NodesAt l w x) :
    Calls Try.prog 107 #[x, .int .i64 a] w fun e w' => e = .returned (.int .i64 (parR l a)) ∧ Below w.heap.size w w' := by
  obtain ⟨μ, h1, h2⟩ := hx
  refine ((parent9_c l hl hb a ha).run h1 (vals := [x, .int .i64 a]) (by simp only [RepAll]; exact ⟨_, _, rfl, h2, _, _, rfl, by simp [Rep], rfl⟩)).mono ?_
  rintro e w' ⟨val, rfl, hb, μ', _, hr⟩
  simp only [Rep] at hr
  exact ⟨by rw [hr], hb⟩
theorem of_k {l : List Nd} (hl : Fine l) (hb : isB l = true) {x : Value} {w : World} (hx : NodesAt l w x) :
    Calls Try.prog 93 #[x] w fun e w' => ∃ y, e = .returned (.agg #[y]) ∧ NodesAt l w' y ∧ Below w.heap.size w w' := by
  obtain ⟨μ, h1, h2⟩ := hx
  refine ((of_c l hl hb).run h1 (vals := [x]) (by simp only [RepAll]; exact ⟨_, _, rfl, h2, rfl⟩)).mono ?_
  rintro e w' ⟨val, rfl, hb, μ', h1', hr⟩
  simp only [Rep] at hr
  obtain ⟨vals, rfl, hr, _⟩ := hr
  simp only [RepAll] at hr
  obtain ⟨y, ys, rfl, hr, rfl⟩ := hr
  exact ⟨y, rfl, ⟨μ', h1', hr⟩, hb⟩
/-- the nodes above one, from within -/
def ups (l : List Nd) : Nat → Int → List Int
  | 0, _ => []
  | f + 1, p => if 0 ≤ p then p :: ups l f (parR l p.toNat) else []
theorem ups_neg {l : List Nd} {f : Nat} {p : Int} (h : p < 0) : ups l f p = [] := by
  cases f with
  | zero => rfl
  | succ f => rw [ups, if_neg (by omega)]
theorem ups_pos {l : List Nd} {f : Nat} {p : Int} (h : 0 ≤ p) (hf : p < f) : ∃ g, f = g + 1 ∧ ups l f p = p :: ups l g (parR l p.toNat) := by
  cases f with
  | zero => omega
  | succ f => exact ⟨f, rfl, by rw [ups, if_pos h]⟩
theorem parR_range (l : List Nd) (a : Nat) : -1 ≤ parR l a ∧ parR l a < a := parD_range l a a
end Go.Vc
namespace Go.Proofs
open Go.RowKit Go.Shelf
attribute [local go_sem] Oper.semAt_some
theorem cell_of_box_v {W : World} {B : Nat} {v : Value} {t : TypeId} (h : W.heap[B]? = some (.cells #[v] t (0, 0))) : W.cell? ⟨B, 0, none⟩ = some v ∧ W.frozen? ⟨B, 0, none⟩ = false := by
  constructor <;> simp [World.cell?, World.frozen?, h]
theorem cell_new_v (W : World) (v : Value) (t : TypeId) : (W.alloc (.cells #[v] t)).cell? ⟨W.heap.size, 0, none⟩ = some v ∧ (W.alloc (.cells #[v] t)).frozen? ⟨W.heap.size, 0, none⟩ = false :=
  cell_of_box_v (World.alloc_heap_new W _)
theorem cell_alloc_v {W : World} {a : Addr} {v : Value} (o : Obj) (h : W.cell? a = some v) : (W.alloc o).cell? a = some v := cell_kept h (World.grownBy_alloc W o none) (fun r e => by cases e)
theorem grown_of_below {W W' : World} (h : Below W.heap.size W W') : W.grownBy W' none := ⟨h.os, h.tape, h.output, h.size, fun k hk _ => h.block k hk⟩
set_option maxRecDepth 100000 in
set_option maxHeartbeats 2000000 in
theorem above1_in (l : List Vc.Nd) (hl : Vc.Fine l) (hb : Vc.isB l = true) (n : Nat) (hn : 1 ≤ n) (lp Bo Ba n₀ a : Nat) (ha : a < l.length) (x : Value) (w0 : World) (hx : Vc.NodesAt l w0 x) (hn₀ : w0.heap.size ≤ n₀) (hBo : Bo < n₀) (hBa : Ba < n₀)
    (J Jx : List Int → World → Prop) (W : World) (hJ : AbidesFrom W.heap.size J)
    (hY : ∀ pre y W, J pre W → pre.length < (Vc.ups l (l.length + 1) (Vc.parR l a)).length → YieldAt Fence.wide (n - 1) Try.prog lp #[.int .i64 y] W fun e W' =>
      (e = .returned (.bool true) ∧ J (pre ++ [y]) W' ∧ Below n₀ W W') ∨ (e = .returned (.bool false) ∧ Jx (pre ++ [y]) W'))
    (hW : Below n₀ w0 W) (hWs : n₀ ≤ W.heap.size) (hco : W.cell? ⟨Bo, 0, none⟩ = some x) (hca : W.cell? ⟨Ba, 0, none⟩ = some (.int .i64 a)) (h0 : J [] W) :
    CallsIn Fence.wide n Try.prog 106 #[.func (.yield lp) #[] #[], .pointer (some ⟨Bo, 0, none⟩), .pointer (some ⟨Ba, 0, none⟩)] W fun e W' => (∃ v, e = .returned v) ∧
      ((∃ ys, ys = Vc.ups l (l.length + 1) (Vc.parR l a) ∧ J ys W') ∨ (∃ pre, pre <+: Vc.ups l (l.length + 1) (Vc.parR l a) ∧ Jx pre W')) := by
  refine callsIn_of_wp Try.func106 rfl trivial ?_ rfl
  simp only [Try.ntmps106, List.size_toArray, List.length_cons, List.length_nil, Nat.reduceAdd, Nat.reduceSub, Array.replicate_succ, Array.replicate_zero, List.push_toArray, List.append_toArray, List.nil_append, List.cons_append]
  have hxW := hx.below hn₀ hW
  have hhas : Vc.hasI l (a : Int) = true := Vc.hasI_iff.2 ⟨by omega, by omega⟩
  have hJn : ∀ s A B, J s A → Below A.heap.size A B → J s B := fun s A B h hB => hJ s A B none h (grown_of_below hB) (fun r e => by cases e)
  have hpr := Vc.parR_range l a
  gi_wp2_with (first
    | (refine ⟨trivial, ?_⟩; gi_at_call 94; refine (callsIn_wide.2 (Vc.has9_k (a := (a : Int)) hxW)).mono ?_; rintro e W1 ⟨rfl, hb1⟩; rw [hhas]; have hco1 := (hb1.cell (p := ⟨Bo, 0, none⟩) (show Bo < W.heap.size by omega)).trans hco; have hca1 := (hb1.cell (p := ⟨Ba, 0, none⟩) (show Ba < W.heap.size by omega)).trans hca; have hxW1 := hxW.below (Nat.le_refl _) hb1)
    | (refine ⟨trivial, ?_⟩; gi_at_call 107; refine (callsIn_wide.2 (Vc.parent9_k hl hb ha hxW1)).mono ?_; rintro e W2 ⟨rfl, hb2⟩))
  have hco2 := (hb2.cell (p := ⟨Bo, 0, none⟩) (show Bo < W1.heap.size by have := hb1.size; omega)).trans hco1
  have hW2 : Below n₀ w0 W2 := hW.trans ((hb1.mono hWs).trans (hb2.mono (by have := hb1.size; omega)))
  have h02 : J [] W2 := hJn _ _ _ (hJn _ _ _ h0 hb1) hb2
  have hs2 : n₀ ≤ W2.heap.size := by have := hb1.size; have := hb2.size; omega
  gi_loopw [4] (fun p wr => ∃ (pre : List Int) (q : Int) (f : Nat), p = .int .i64 q ∧ -1 ≤ q ∧ q < l.length ∧ q < f ∧ Vc.ups l (l.length + 1) (Vc.parR l a) = pre ++ Vc.ups l f q ∧ Below n₀ w0 wr ∧ n₀ ≤ wr.heap.size ∧ wr.cell? ⟨Bo, 0, none⟩ = some x ∧ J pre wr)
    (fun p wr => (intOf p + 1).toNat)
  case atStart =>
    exact ⟨[], Vc.parR l a, l.length + 1, rfl, by omega, by omega, by omega, rfl, hW2, hs2, hco2, h02⟩
  case round =>
    obtain ⟨pre, q, f, rfl, hq1, hq2, hqf, hxs, hbr, hsr, hcr, hJr⟩ := hrel
    by_cases hq : 0 ≤ q
    · obtain ⟨g, rfl, hu⟩ := Vc.ups_pos (l := l) hq hqf
      have hlen : pre.length < (Vc.ups l (l.length + 1) (Vc.parR l a)).length := by rw [hxs, hu]; simp
      obtain ⟨fn, tmps, assign, body, hy, hR⟩ := hY pre q wr hJr hlen
      gi_wp2
      refine hR.mono ?_
      rintro e W3 (⟨rfl, hJ3, hk3⟩ | ⟨rfl, hJx3⟩)
      · have hbr3 : Below n₀ w0 W3 := hbr.trans hk3
        have hco3 := (hk3.cell (p := ⟨Bo, 0, none⟩) hBo).trans hcr
        have hx3 := hx.below hn₀ hbr3
        have hql : q.toNat < l.length := by omega
        have hqe : ((q.toNat : Nat) : Int) = q := by omega
        have hpq := Vc.parR_range l q.toNat
        gi_wp2_with (refine ⟨trivial, ?_⟩; gi_at_call 107; refine (callsIn_wide.2 (hqe ▸ Vc.parent9_k hl hb hql hx3)).mono ?_; rintro e W4 ⟨rfl, hb4⟩)
        go_roundw
        case rel =>
          have hs3 : n₀ ≤ W3.heap.size := Nat.le_trans hsr hk3.size
          exact ⟨pre ++ [q], Vc.parR l q.toNat, g, rfl, by omega, by omega, by omega, by rw [hxs, hu]; simp, hbr3.trans (hb4.mono hs3), Nat.le_trans hs3 hb4.size, (hb4.cell (p := ⟨Bo, 0, none⟩) (show Bo < W3.heap.size by omega)).trans hco3, hJn _ _ _ hJ3 hb4⟩
        case measure =>
          simp only [intOf]; omega
      · gi_wp2
        go_end0
        exact ⟨⟨_, rfl⟩, .inr ⟨pre ++ [q], by rw [hxs, hu]; exact ⟨_, by simp; rfl⟩, hJx3⟩⟩
    · gi_wp2
      refine ⟨fun _ h => (by cases h), ?_⟩
      gi_wp2
      go_end0
      exact ⟨⟨_, rfl⟩, .inl ⟨pre, by rw [hxs, Vc.ups_neg (by omega)]; simp, hJr⟩⟩
theorem above_in (n : Nat) (x : Value) (a : Int) (w : World) :
    CallsIn Fence.wide n Try.prog 100 #[.agg #[x], .int .i64 a] w fun e w' => e = .returned (.func (.func 106) #[] #[.pointer (some ⟨w.heap.size, 0, none⟩), .pointer (some ⟨w.heap.size + 1, 0, none⟩)]) ∧
      w' = (w.alloc (.cells #[x] 123)).alloc (.cells #[.int .i64 a] 3) := by
  refine callsIn_of_wp Try.func100 rfl trivial ?_ rfl
  simp only [Try.ntmps100, List.size_toArray, List.length_cons, List.length_nil, Nat.reduceAdd, Nat.reduceSub, Array.replicate_succ, Array.replicate_zero, List.push_toArray, List.append_toArray, List.nil_append, List.cons_append]
  gi_wp2
  go_ret
  exact ⟨rfl, rfl⟩
end Go.Proofs
namespace Go.Proofs
open Go.RowKit Go.Shelf
attribute [local go_sem] Oper.semAt_some
theorem above_stops (l : List Vc.Nd) (hl : Vc.Fine l) (hb : Vc.isB l = true) (n : Nat) (hn : 1 ≤ n) (Bo Ba a : Nat) (ha : a < l.length) (x : Value) (w : World) (hx : Vc.NodesAt l w x) (hBo : Bo < w.heap.size) (hBa : Ba < w.heap.size)
    (hco : w.cell? ⟨Bo, 0, none⟩ = some x) (hca : w.cell? ⟨Ba, 0, none⟩ = some (.int .i64 a)) :
    SeqStopsK Fence.wide n Try.prog 106 #[.pointer (some ⟨Bo, 0, none⟩), .pointer (some ⟨Ba, 0, none⟩)] (fun z : Int => #[Value.int .i64 z]) (Below w.heap.size) (fun ys => ys = Vc.ups l (l.length + 1) (Vc.parR l a)) (fun pre => pre <+: Vc.ups l (l.length + 1) (Vc.parR l a)) (Vc.ups l (l.length + 1) (Vc.parR l a)).length w :=
  fun lp J Jx W hW hJ _ hY h0 =>
  above1_in l hl hb n hn lp Bo Ba w.heap.size a ha x w hx (Nat.le_refl _) hBo hBa J Jx W hJ hY hW hW.size ((hW.cell (p := ⟨Bo, 0, none⟩) hBo).trans hco) ((hW.cell (p := ⟨Ba, 0, none⟩) hBa).trans hca) h0
set_option maxRecDepth 100000 in
set_option maxHeartbeats 4000000 in
theorem parent_in (l : List Vc.Nd) (hl : Vc.Fine l) (hb : Vc.isB l = true) (n : Nat) (hn : 3 ≤ n) (a : Nat) (ha : a < l.length) (x : Value) (w : World) (hx : Vc.NodesAt l w x) :
    CallsIn Fence.wide n Try.prog 91 #[x, .int .i64 a] w fun e W' => e = .returned (.int .i64 (Vc.parR l a)) ∧ Below w.heap.size w W' := by
  have h1 : 1 ≤ n := by omega
  refine callsIn_of_wp_marks Try.func91 rfl trivial ?_ rfl
  simp only [Try.ntmps91, List.size_toArray, List.length_cons, List.length_nil, Nat.reduceAdd, Nat.reduceSub, Array.replicate_succ, Array.replicate_zero, List.push_toArray, List.append_toArray, List.nil_append, List.cons_append]
  have c0 := cell_new_v w (.int .i64 0) 3
  have hx1 : Vc.NodesAt l (w.alloc (.cells #[.int .i64 0] 3)) x := hx.below (Nat.le_refl _) ((Below.refl _ w).alloc (Nat.le_refl _) _)
  gi_wp2_with (first
    | (refine ⟨trivial, ?_⟩; gi_at_call 93; refine (callsIn_wide.2 (Vc.of_k hl hb hx1)).mono ?_; rintro e w1 ⟨y, rfl, hy, hb1⟩)
    | (refine ⟨trivial, ?_⟩; gi_at_call 100; refine (above_in _ y a w1).mono ?_; rintro e w2 ⟨rfl, rfl⟩))
  have hs1 : w.heap.size + 1 ≤ w1.heap.size := by have := hb1.size; simpa using this
  have c0' : w1.cell? ⟨w.heap.size, 0, none⟩ = some (.int .i64 0) := (hb1.cell (p := ⟨w.heap.size, 0, none⟩) (by simp)).trans c0.1
  have f0' : w1.frozen? ⟨w.heap.size, 0, none⟩ = false := (hb1.frozen (p := ⟨w.heap.size, 0, none⟩) (by simp)).trans c0.2
  have hB1 : Below w.heap.size w w1 := ((Below.refl _ w).alloc (Nat.le_refl _) _).trans (hb1.mono (by simp))
  have cO := cell_new_v w1 y 123
  have cA := cell_new_v (w1.alloc (.cells #[y] 123)) (.int .i64 a) 3
  rw [World.size_alloc] at cA
  have hgrow : Below w1.heap.size w1 ((w1.alloc (.cells #[y] 123)).alloc (.cells #[.int .i64 a] 3)) := ((Below.refl _ w1).alloc (Nat.le_refl _) _).alloc (by simp) _
  have hsz : ((w1.alloc (.cells #[y] 123)).alloc (.cells #[.int .i64 (a : Int)] 3)).heap.size = w1.heap.size + 2 := by simp
  have cO' := cell_alloc_v (.cells #[.int .i64 (a : Int)] 3) cO.1
  obtain ⟨W0, hW0⟩ : ∃ W0, (w1.alloc (.cells #[y] 123)).alloc (.cells #[.int .i64 (a : Int)] 3) = W0 := ⟨_, rfl⟩
  rw [hW0] at hgrow hsz cO' cA ⊢
  have hyW := hy.below (Nat.le_refl _) hgrow
  have cR := (hgrow.cell (p := ⟨w.heap.size, 0, none⟩) (show w.heap.size < w1.heap.size by omega)).trans c0'
  have fR := (hgrow.frozen (p := ⟨w.heap.size, 0, none⟩) (show w.heap.size < w1.heap.size by omega)).trans f0'
  have hB0 : Below w.heap.size w W0 := hB1.trans (hgrow.mono (by omega))
  have hs0 : w.heap.size ≤ W0.heap.size := hB0.size
  have hpr := Vc.parR_range l a
  clear hx1 c0 cO hW0
  refine wpIn_rangeFunc_ownF rfl h1 (gf := 106) (lb := #[.pointer (some ⟨w1.heap.size, 0, none⟩), .pointer (some ⟨w1.heap.size + 1, 0, none⟩)]) rfl trivial (enters_of Try.func106 (by kernel_rfl) rfl)
    (above_stops l hl hb (n - 1) (by omega) w1.heap.size (w1.heap.size + 1) a ha y W0 hyW (by omega) (by omega) cO' cA.1) belowK_t (belowK_b (Nat.le_refl _)) (Below.refl _ _) (fun _ => rfl)
    (fun pre W => (pre = [] ∧ W.cell? ⟨w.heap.size, 0, none⟩ = some (.int .i64 0) ∧ W.frozen? ⟨w.heap.size, 0, none⟩ = false) ∧ Below w.heap.size w W)
    (fun c pre W => (c = .ret ∧ ∃ z, pre = [z] ∧ W.cell? ⟨w.heap.size, 0, none⟩ = some (.int .i64 z)) ∧ Below w.heap.size w W)
    (OwnFrom.and (Own.from (fun s A B row hs hg hr => ⟨hs.1, cell_kept hs.2.1 hg hr, (frozen_kept hs.2.1 hg hr).trans hs.2.2⟩) _) (ownFrom_below (Nat.le_refl _) hs0))
    (fun c => OwnFrom.and (Own.from (fun s A B row hs hg hr => ⟨hs.1, hs.2.choose, hs.2.choose_spec.1, cell_kept hs.2.choose_spec.2 hg hr⟩) _) (ownFrom_below (Nat.le_refl _) hs0))
    ⟨⟨rfl, cR, fR⟩, hB0⟩
    (fun z => { tmps := #[x, .int .i64 a, undef, undef, .pointer (some ⟨w.heap.size, 0, none⟩), .int .i64 z, x, .agg #[y], .int .i64 a, .func (.func 106) #[] #[.pointer (some ⟨w1.heap.size, 0, none⟩), .pointer (some ⟨w1.heap.size + 1, 0, none⟩)], .int .i64 z, undef], defers := [] }) ?assign ?body ?done ?stop
  case assign =>
    intro lp z W K hK
    gi_wp2
    exact hK
  case body =>
    rintro lp pre z W ⟨⟨rfl, hcr, hfr⟩, hB⟩ _
    gi_wp2
    exact ⟨KeepsOthers.setCell _ _ _, ⟨rfl, z, rfl, World.cell?_setCell_same' _ _ _ (by rw [hcr]; rfl)⟩, hB.setCell (p := ⟨w.heap.size, 0, none⟩) (by simp) _⟩
  case done =>
    rintro D ys W hD hys ⟨⟨rfl, hcr, hfr⟩, hB⟩ hK
    have hpm : Vc.parR l a = -1 := by
      by_cases h : 0 ≤ Vc.parR l a
      · obtain ⟨g, _, hu⟩ := Vc.ups_pos (l := l) (f := l.length + 1) h (by omega)
        rw [hu] at hys; cases hys
      · omega
    gi_wp2
    have hK' := (KeepsOthers.setCell W ⟨w.heap.size, 0, none⟩ (.int .i64 (-1))).same D _ hK rfl
    refine ⟨by simp, .inl ⟨_, _, rfl, run_takeDeferred hK', ?_⟩⟩
    have hc5 := cell_kept (World.cell?_setCell_same' W ⟨w.heap.size, 0, none⟩ (.int .i64 (-1)) (by rw [hcr]; rfl)) (grownBy_putObj' _ D (.deferred none)) (fun r e => by cases e; exact ⟨_, hK', rfl⟩)
    refine ⟨.int .i64 (-1), ?_, by rw [hpm], (hB.setCell (p := ⟨w.heap.size, 0, none⟩) (by simp) _).trans (belowK_b (w := w) (Nat.le_refl _) _ D _ _ (by omega) hK' rfl rfl)⟩
    simp [results, Try.f91, go_sem, hc5]
  case stop =>
    rintro D c pre W hD hpre ⟨⟨rfl, z, rfl, hcr⟩, hB⟩ hK
    have hpm : Vc.parR l a = z := by
      by_cases h : 0 ≤ Vc.parR l a
      · obtain ⟨g, _, hu⟩ := Vc.ups_pos (l := l) (f := l.length + 1) h (by omega)
        rw [hu] at hpre
        obtain ⟨t, ht⟩ := hpre
        simp at ht
        exact ht.1.symm
      · rw [Vc.ups_neg (by omega)] at hpre
        simp at hpre
    gi_wp2
    refine ⟨by simp, .inl ⟨_, _, rfl, run_takeDeferred hK, ?_⟩⟩
    have hc5 := cell_kept hcr (grownBy_putObj' _ D (.deferred none)) (fun r e => by cases e; exact ⟨_, hK, rfl⟩)
    refine ⟨.int .i64 z, ?_, by rw [hpm], hB.trans (belowK_b (w := w) (Nat.le_refl _) W D _ _ (by omega) hK rfl rfl)⟩
    simp [results, Try.f91, go_sem, hc5]
end Go.Proofs
namespace Go.Vc
open Go.Proofs Go.RowKit
/-- memory grows, and what lay stays -/
theorem Sat.grow {μ : Mu} {σ : Store} {w w' : World} (h : Sat w (Owned μ σ) μ σ w) (hb : Below w.heap.size w w') : Sat w (Owned μ σ) μ σ w' where
  size := hb.size
  os := hb.os
  tape := hb.tape
  output := hb.output
  same := fun b hlt _ => hb.block b hlt
  fin := h.fin
  inj := h.inj
  obj := fun id o ho => by
    refine (h.obj id o ho).mono (MuLe.refl μ) (fun b hlt hn => ⟨hn, hb.block b hlt⟩) hb.size (fun b sz cap hp => hb.block b ?_)
    exact Owned.lt h ⟨id, o, sz, cap, ho, hp⟩
  fresh := fun b hbb _ => hbb
theorem parent91_c (l : List Nd) (hl : Fine l) (hb : isB l = true) (a : Nat) (ha : a < l.length) : PFun Try.prog 91 [encNs l, vI a] (vI (parR l a)) := fun σ => by
  refine ⟨by kernel_rfl, ?_⟩
  intro μ w vals hs hr
  simp only [RepAll] at hr
  obtain ⟨x, xs, rfl, hx, y, ys, rfl, hy, rfl⟩ := hr
  simp only [Rep] at hy
  subst hy
  have hN : NodesAt l w x := ⟨μ, hs.fin, Rep.mono (MuLe.refl μ) (Keeps.sub w (nost_sub σ)) (Nat.le_refl _) _ _ hx⟩
  refine (callsIn_wide.1 (parent_in l hl hb 3 (by omega) a ha x w hN)).mono ?_
  rintro e w' ⟨rfl, hbw⟩
  exact ⟨_, σ, μ, _, rfl, ⟨rfl, rfl⟩, MuLe.refl μ, hs.grow hbw, by simp [Rep]⟩
end Go.Vc
namespace Go.Vc
open Go.Proofs
set_option maxRecDepth 100000 in
theorem outcomes_c : PFun Try.prog 44 [] (.agg [.nilfn, .fn 68 [], .fn 69 []]) := fun σ => by
  refine Contract.of_runs Try.func44 e44 k44 (by simp [c44]) ?_
  refine Runs.mix 2 ?_
  (refine Runs.of_step Orc.nothing 300 ?_; simp -implicitDefEqProofs only [BB, Int.reduceEq, Int.reduceNe, Int.reduceLT, Int.reduceLE, Int.reduceGT, Int.reduceGE, Nat.reduceEqDiff, Nat.reduceAdd, Nat.reduceMul, Nat.reduceLeDiff, Nat.reduceSub, Nat.reduceLT, Nat.reduceBEq, ↓reduceIte, reduceCtorEq, ← decide_not, okind, vpre, vpure, intBin, intPre, strBin, strPre, popTo, argSlots, fldV, fldAV, subCells, idxVV, idxAAV, idxSV, sliceV, sliceSV, boundV, szIs, storeOp, storeS, setRowV, eff, extV, buildV, splice, eqSV, fitsL, eqCells, eqCell, minmaxV, capV, binBV, nilCheckV, bytesV, V.cells, V.stays, Orc.nothing, c44])
  refine effR_new fun id1 σ1 s1 a1 f1 => ?_
  simp -implicitDefEqProofs only [BB, Int.reduceEq, Int.reduceNe, Int.reduceLT, Int.reduceLE, Int.reduceGT, Int.reduceGE, Nat.reduceEqDiff, Nat.reduceAdd, Nat.reduceMul, Nat.reduceLeDiff, Nat.reduceSub, Nat.reduceLT, Nat.reduceBEq, ↓reduceIte, reduceCtorEq, ← decide_not, okind, vpre, vpure, intBin, intPre, strBin, strPre, popTo, argSlots, fldV, fldAV, subCells, idxVV, idxAAV, idxSV, sliceV, sliceSV, boundV, szIs, storeOp, storeS, setRowV, eff, extV, buildV, splice, eqSV, fitsL, eqCells, eqCell, minmaxV, capV, binBV, nilCheckV, bytesV, V.cells, V.stays, a1]
  refine RetV.pure (s1.updK f1) rfl
/-- a style for another one -/
def restyle (l : List Nd) (p : Nat) (s : Sty) : List Nd := match l[p]? with
  | some x => l.set p { x with st := s }
  | none => l
theorem restyle_length (l : List Nd) (p : Nat) (s : Sty) : (restyle l p s).length = l.length := by
  unfold restyle
  split <;> simp
def styleR (l : List Nd) (x : Ed) : Option (List Nd) :=
  if blockR l x.pos = false ∨ x.into ≠ 0 ∨ x.many ≠ 0 ∨ 0 < x.sub.length then none else some (restyle l x.pos.toNat x.st)
def optV (o : Option (List Nd)) : V := encNs (o.getD [])
set_option maxRecDepth 100000 in
theorem style_c (x : Ed) (l : List Nd) (hl : Sml l) : PFun Try.prog 69 [encH x l] (.tup [optV (styleR l x), .bool (styleR l x).isSome]) := fun σ => by
  have hl1 := hl.1
  refine Contract.of_runs Try.func69 e69 k69 (by simp [c69]) ?_
  refine Runs.mix 5 ?_
  (refine Runs.of_step Orc.nothing 300 ?_; simp -implicitDefEqProofs only [BB, Int.reduceEq, Int.reduceNe, Int.reduceLT, Int.reduceLE, Int.reduceGT, Int.reduceGE, Nat.reduceEqDiff, Nat.reduceAdd, Nat.reduceMul, Nat.reduceLeDiff, Nat.reduceSub, Nat.reduceLT, Nat.reduceBEq, ↓reduceIte, reduceCtorEq, ← decide_not, okind, vpre, vpure, intBin, intPre, strBin, strPre, popTo, argSlots, fldV, fldAV, subCells, idxVV, idxAAV, idxSV, sliceV, sliceSV, boundV, szIs, storeOp, storeS, setRowV, eff, extV, buildV, splice, eqSV, fitsL, eqCells, eqCell, minmaxV, capV, binBV, nilCheckV, bytesV, V.cells, V.stays, Orc.nothing, c69, encH, encNs_cells, encNs_stays])
  refine effR_new fun id1 σ1 s1 a1 f1 => ?_
  simp -implicitDefEqProofs only [BB, Int.reduceEq, Int.reduceNe, Int.reduceLT, Int.reduceLE, Int.reduceGT, Int.reduceGE, Nat.reduceEqDiff, Nat.reduceAdd, Nat.reduceMul, Nat.reduceLeDiff, Nat.reduceSub, Nat.reduceLT, Nat.reduceBEq, ↓reduceIte, reduceCtorEq, ← decide_not, okind, vpre, vpure, intBin, intPre, strBin, strPre, popTo, argSlots, fldV, fldAV, subCells, idxVV, idxAAV, idxSV, sliceV, sliceSV, boundV, szIs, storeOp, storeS, setRowV, eff, extV, buildV, splice, eqSV, fitsL, eqCells, eqCell, minmaxV, capV, binBV, nilCheckV, bytesV, V.cells, V.stays, a1, encNs_cells, encNs_stays]
  refine Runs.pcall rfl rfl rfl (block9_c x l _ _) ?_
  have hnone : styleR l x = none → RetV (.tup [.nils, .bool false]) σ1 fun r σ' => r = .tup [optV (styleR l x), .bool (styleR l x).isSome] ∧ σ' = σ := fun h => by
    rw [h]
    exact ⟨_, σ, s1, Wk.tup (by simp only [WkL]; exact ⟨Wk.nils 20, Wk.refl s1 _, trivial⟩), rfl, rfl⟩
  cases hbk : blockR l x.pos
  · (refine Runs.of_step Orc.nothing 300 ?_; simp -implicitDefEqProofs only [BB, Int.reduceEq, Int.reduceNe, Int.reduceLT, Int.reduceLE, Int.reduceGT, Int.reduceGE, Nat.reduceEqDiff, Nat.reduceAdd, Nat.reduceMul, Nat.reduceLeDiff, Nat.reduceSub, Nat.reduceLT, Nat.reduceBEq, ↓reduceIte, reduceCtorEq, ← decide_not, okind, vpre, vpure, intBin, intPre, strBin, strPre, popTo, argSlots, fldV, fldAV, subCells, idxVV, idxAAV, idxSV, sliceV, sliceSV, boundV, szIs, storeOp, storeS, setRowV, eff, extV, buildV, splice, eqSV, fitsL, eqCells, eqCell, minmaxV, capV, binBV, nilCheckV, bytesV, V.cells, V.stays, Orc.nothing, hbk, a1, encNs_cells, encNs_stays])
    refine hnone ?_
    rw [styleR, if_pos (.inl hbk)]
  · (refine Runs.of_step Orc.nothing 300 ?_; simp -implicitDefEqProofs only [BB, Int.reduceEq, Int.reduceNe, Int.reduceLT, Int.reduceLE, Int.reduceGT, Int.reduceGE, Nat.reduceEqDiff, Nat.reduceAdd, Nat.reduceMul, Nat.reduceLeDiff, Nat.reduceSub, Nat.reduceLT, Nat.reduceBEq, ↓reduceIte, reduceCtorEq, ← decide_not, okind, vpre, vpure, intBin, intPre, strBin, strPre, popTo, argSlots, fldV, fldAV, subCells, idxVV, idxAAV, idxSV, sliceV, sliceSV, boundV, szIs, storeOp, storeS, setRowV, eff, extV, buildV, splice, eqSV, fitsL, eqCells, eqCell, minmaxV, capV, binBV, nilCheckV, bytesV, V.cells, V.stays, Orc.nothing, hbk, a1, encNs_cells, encNs_stays, lenV_encNs])
    have hb2 := hbk
    simp only [blockR, Bool.and_eq_true] at hb2
    have hp := hasI_iff.1 hb2.1
    have hlt : x.pos.toNat < l.length := by omega
    refine And.intro (fun c1 => And.intro (fun c2 => And.intro (fun c3 => ?_) (fun c3 => ?_)) (fun c2 => ?_)) (fun c1 => ?_)
    · refine hnone ?_
      rw [styleR, if_pos (.inr (.inr (.inr (by omega))))]
    · have hsome : styleR l x = some (restyle l x.pos.toNat x.st) := by
        rw [styleR, if_neg]
        rintro (h | h | h | h)
        · rw [hbk] at h; cases h
        · omega
        · omega
        · omega
      rw [hsome]
      refine Runs.call rfl rfl rfl (own9_o l hl _) ?_
      rintro r σ2 ⟨hsub, hout⟩
      have a1' := hsub _ _ a1
      rcases hout with ⟨rfl, hr0⟩ | ⟨id, rfl, ho, hk⟩
      · have : l = [] := by cases l with | nil => rfl | cons a b => simp at hr0
        subst this
        simp at hlt
      · rw [List.length_map]
        have hrow : (l.map encN)[x.pos.toNat]? = some (.agg (Nd.cells l[x.pos.toNat])) := by simp [hlt, encN]
        have hc : 0 ≤ x.pos ∧ x.pos < (l.length : Int) := hp
        have hk' : σ1 id = none := hk
        have hid1 : id1 ≠ id := ne_new a1 hk'
        have hre : (restyle l x.pos.toNat x.st).map encN = (l.map encN).set x.pos.toNat (encN { l[x.pos.toNat] with st := x.st }) := by
          rw [restyle]
          simp only [List.getElem?_eq_getElem hlt]
          rw [List.map_set]
        generalize l[x.pos.toNat] = y at *
        simp only [encN, Nd.cells] at hre
        (refine Runs.of_step Orc.nothing 300 ?_; simp -implicitDefEqProofs only [BB, Int.reduceEq, Int.reduceNe, Int.reduceLT, Int.reduceLE, Int.reduceGT, Int.reduceGE, Nat.reduceEqDiff, Nat.reduceAdd, Nat.reduceMul, Nat.reduceLeDiff, Nat.reduceSub, Nat.reduceLT, Nat.reduceBEq, ↓reduceIte, reduceCtorEq, ← decide_not, okind, vpre, vpure, intBin, intPre, strBin, strPre, popTo, argSlots, fldV, fldAV, subCells, idxVV, idxAAV, idxSV, sliceV, sliceSV, boundV, szIs, storeOp, storeS, setRowV, eff, extV, buildV, splice, eqSV, fitsL, eqCells, eqCell, minmaxV, capV, binBV, nilCheckV, bytesV, V.cells, V.stays, Orc.nothing, a1', ho, hc, hrow, Nd.cells, encNs_cells, encNs_stays])
        rw [← hre]
        have hn : l.length = ((restyle l x.pos.toNat x.st).map encN).length := by rw [List.length_map, restyle_length]
        have hs3 : SubStore σ (upd σ2 id ⟨28, 20, (restyle l x.pos.toNat x.st).map encN⟩) := (s1.trans hsub).updK (s1.none hk')
        have hv := (OutV.new (K := σ) (e := 28) (sz := 20) hn (upd_same (σ := σ2) (id := id)) (s1.none hk')).wk (SubStore.refl σ) hs3
        exact ⟨_, σ, hs3, Wk.tup (by simp only [WkL]; exact ⟨hv, Wk.refl hs3 _, trivial⟩), rfl, rfl⟩
    · refine hnone ?_
      rw [styleR, if_pos (.inr (.inr (.inl (by omega))))]
    · refine hnone ?_
      rw [styleR, if_pos (.inr (.inl (by omega)))]
end Go.Vc
namespace Go.Vc
open Go.Proofs
theorem V.cells_agg (vs : List V) : V.cells (.agg vs) = vs := rfl
theorem V.cells_int (k : IntKind) (i : Int) : V.cells (.int k i) = [.int k i] := rfl
theorem V.cells_nils : V.cells .nils = [.nils] := rfl
theorem V.cells_own (a b c : Nat) : V.cells (.own a b c) = [.own a b c] := rfl
theorem V.cells_sl (a : Nat) (b : List V) : V.cells (.sl a b) = [.sl a b] := rfl
theorem V.cells_str (a : List UInt8) : V.cells (.str a) = [.str a] := rfl
theorem V.cells_bool (a : Bool) : V.cells (.bool a) = [.bool a] := rfl
theorem V.cells_fn (a : FuncId) (b : List V) : V.cells (.fn a b) = [.fn a b] := rfl
theorem V.cells_ptr (a b c : Nat) : V.cells (.ptr a b c) = [.ptr a b c] := rfl
theorem V.cells_rp (a : V) : V.cells (.rp a) = [.rp a] := rfl
theorem V.stays_agg (vs : List V) : V.stays (.agg vs) = true := rfl
theorem V.stays_int (k : IntKind) (i : Int) : V.stays (.int k i) = true := rfl
theorem V.stays_nils : V.stays .nils = true := rfl
theorem V.stays_own (a b c : Nat) : V.stays (.own a b c) = true := rfl
theorem V.stays_sl (a : Nat) (b : List V) : V.stays (.sl a b) = true := rfl
theorem V.stays_str (a : List UInt8) : V.stays (.str a) = true := rfl
theorem V.stays_bool (a : Bool) : V.stays (.bool a) = true := rfl
theorem V.stays_fn (a : FuncId) (b : List V) : V.stays (.fn a b) = true := rfl
theorem V.stays_ptr (a b c : Nat) : V.stays (.ptr a b c) = true := rfl
theorem V.stays_rp (a : V) : V.stays (.rp a) = true := rfl
section
variable {P : Program} {n : Nat} {Q : St → Prop} {k : List It}
/-- a call that changes nothing, where orders are free -/
theorem Go.pcall {d : Option Nat} {fx : VX} {xs : List VX} {l : List VIns} {s : Nat → V} {σ : Store} {f : FuncId} {caps : List V} {v : V}
    (hf : fx.ev s = .fn f caps) (hc : PFun P f (xs.map (·.ev s) ++ caps) v) (h : Go P n (.d l k) ⟨putO s d v, σ⟩ Q) :
    Go P n (.d (⟨d, .call fx xs, none⟩ :: l) k) ⟨s, σ⟩ Q := by
  refine T_true (st := ⟨s, σ⟩) (i := ⟨d, .call fx xs, none⟩) rfl ?_
  exact ⟨f, caps, v, hf, fun σ1 _ => hc σ1, h⟩
end
theorem sliceV_from {σ : Store} {l : List Nd} {s : Int} (h1 : 0 ≤ s) (h2 : s ≤ l.length) :
    sliceV σ 20 (encNs l) (some (.int .i64 s)) none none = some (encNs (l.drop s.toNat)) := by
  simp only [encNs, sliceV, boundV, List.length_map]
  rw [if_pos ⟨h1, h2, Int.le_refl _, Int.le_refl _, trivial⟩]
  simp only [V.sl.injEq, Option.some.injEq, true_and]
  rw [List.map_drop, List.take_of_length_le]
  simp
/-- the sizes of these grow -/
def bump (m : Int) (p : Nat) (out : List Nd) : List Nd := match out[p]? with
  | some x => out.set p { x with size := x.size + m }
  | none => out
theorem bump_length (m : Int) (p : Nat) (out : List Nd) : (bump m p out).length = out.length := by
  unfold bump; split <;> simp
theorem bump_get {m : Int} {p i : Nat} {out : List Nd} (h : i ≠ p) : (bump m p out)[i]? = out[i]? := by
  unfold bump; split
  · rw [List.getElem?_set_ne (by omega)]
  · rfl
def bumps (m : Int) : List Int → List Nd → List Nd
  | [], out => out
  | p :: ps, out => bumps m ps (bump m p.toNat out)
theorem bumps_length (m : Int) : ∀ (ps : List Int) (out : List Nd), (bumps m ps out).length = out.length
  | [], _ => rfl
  | p :: ps, out => by rw [bumps, bumps_length m ps, bump_length]
def swapL (l : List Nd) (x : Ed) (to : Int) : List Nd :=
  bumps ((x.sub.length : Int) - (to - x.pos)) (ups l (l.length + 1) x.into) (l.take x.pos.toNat ++ x.sub ++ l.drop to.toNat)
def swapR (l : List Nd) (x : Ed) : Option (List Nd) :=
  if (goneR l x.into x.pos x.many).2.2 = false ∨ isB x.sub = false ∨ x.st ≠ Sty.zero then none else some (swapL l x (goneR l x.into x.pos x.many).2.1)
set_option maxRecDepth 100000 in
theorem swap_c (x : Ed) (l : List Nd) (hl : Sml l) (hb : isB l = true) (hx : Sml x.sub) : PFun Try.prog 68 [encH x l] (.tup [optV (swapR l x), .bool (swapR l x).isSome]) := fun σ => by
  have hl1 := hl.1
  have hx1 := hx.1
  refine Contract.of_runs Try.func68 e68 k68 (by simp [c68]) ?_
  refine Runs.mix 12 ?_
  (refine Runs.of_step Orc.nothing 300 ?_; simp -implicitDefEqProofs only [BB, Int.reduceEq, Int.reduceNe, Int.reduceLT, Int.reduceLE, Int.reduceGT, Int.reduceGE, Nat.reduceEqDiff, Nat.reduceAdd, Nat.reduceMul, Nat.reduceLeDiff, Nat.reduceSub, Nat.reduceLT, Nat.reduceBEq, ↓reduceIte, reduceCtorEq, ← decide_not, okind, vpre, vpure, intBin, intPre, strBin, strPre, popTo, argSlots, fldV, fldAV, subCells, idxVV, idxAAV, idxSV, sliceV, sliceSV, boundV, szIs, storeOp, storeS, setRowV, eff, extV, buildV, splice, eqSV, fitsL, eqCells, eqCell, minmaxV, capV, binBV, nilCheckV, bytesV, V.cells, V.stays, Orc.nothing, c68, encH, encNs_cells, encNs_stays])
  refine effR_new fun id1 σ1 s1 a1 f1 => ?_
  simp -implicitDefEqProofs only [BB, Int.reduceEq, Int.reduceNe, Int.reduceLT, Int.reduceLE, Int.reduceGT, Int.reduceGE, Nat.reduceEqDiff, Nat.reduceAdd, Nat.reduceMul, Nat.reduceLeDiff, Nat.reduceSub, Nat.reduceLT, Nat.reduceBEq, ↓reduceIte, reduceCtorEq, ← decide_not, okind, vpre, vpure, intBin, intPre, strBin, strPre, popTo, argSlots, fldV, fldAV, subCells, idxVV, idxAAV, idxSV, sliceV, sliceSV, boundV, szIs, storeOp, storeS, setRowV, eff, extV, buildV, splice, eqSV, fitsL, eqCells, eqCell, minmaxV, capV, binBV, nilCheckV, bytesV, V.cells, V.stays, a1, encNs_cells, encNs_stays]
  have hnone : swapR l x = none → RetV (.tup [.nils, .bool false]) σ1 fun r σ' => r = .tup [optV (swapR l x), .bool (swapR l x).isSome] ∧ σ' = σ := fun h => by
    rw [h]
    exact ⟨_, σ, s1, Wk.tup (by simp only [WkL]; exact ⟨Wk.nils 20, Wk.refl s1 _, trivial⟩), rfl, rfl⟩
  have hgc := gone_c x l hl.fine hb
  rcases hg : goneR l x.into x.pos x.many with ⟨fr, to, ok⟩
  rw [hg] at hgc
  refine Runs.pcall rfl rfl rfl (hgc _) ?_
  cases ok
  · (refine Runs.of_step Orc.nothing 300 ?_; simp -implicitDefEqProofs only [BB, Int.reduceEq, Int.reduceNe, Int.reduceLT, Int.reduceLE, Int.reduceGT, Int.reduceGE, Nat.reduceEqDiff, Nat.reduceAdd, Nat.reduceMul, Nat.reduceLeDiff, Nat.reduceSub, Nat.reduceLT, Nat.reduceBEq, ↓reduceIte, reduceCtorEq, ← decide_not, okind, vpre, vpure, intBin, intPre, strBin, strPre, popTo, argSlots, fldV, fldAV, subCells, idxVV, idxAAV, idxSV, sliceV, sliceSV, boundV, szIs, storeOp, storeS, setRowV, eff, extV, buildV, splice, eqSV, fitsL, eqCells, eqCell, minmaxV, capV, binBV, nilCheckV, bytesV, V.cells, V.stays, Orc.nothing, a1, encNs_cells, encNs_stays])
    exact hnone (by rw [swapR, if_pos (.inl (by rw [hg]))])
  · (refine Runs.of_step Orc.nothing 300 ?_; simp -implicitDefEqProofs only [BB, Int.reduceEq, Int.reduceNe, Int.reduceLT, Int.reduceLE, Int.reduceGT, Int.reduceGE, Nat.reduceEqDiff, Nat.reduceAdd, Nat.reduceMul, Nat.reduceLeDiff, Nat.reduceSub, Nat.reduceLT, Nat.reduceBEq, ↓reduceIte, reduceCtorEq, ← decide_not, okind, vpre, vpure, intBin, intPre, strBin, strPre, popTo, argSlots, fldV, fldAV, subCells, idxVV, idxAAV, idxSV, sliceV, sliceSV, boundV, szIs, storeOp, storeS, setRowV, eff, extV, buildV, splice, eqSV, fitsL, eqCells, eqCell, minmaxV, capV, binBV, nilCheckV, bytesV, V.cells, V.stays, Orc.nothing, a1, encNs_cells, encNs_stays])
    refine Runs.pcall rfl rfl rfl (isv_c x.sub hx.fine _) ?_
    cases hbs : isB x.sub
    · (refine Runs.of_step Orc.nothing 300 ?_; simp -implicitDefEqProofs only [BB, Int.reduceEq, Int.reduceNe, Int.reduceLT, Int.reduceLE, Int.reduceGT, Int.reduceGE, Nat.reduceEqDiff, Nat.reduceAdd, Nat.reduceMul, Nat.reduceLeDiff, Nat.reduceSub, Nat.reduceLT, Nat.reduceBEq, ↓reduceIte, reduceCtorEq, ← decide_not, okind, vpre, vpure, intBin, intPre, strBin, strPre, popTo, argSlots, fldV, fldAV, subCells, idxVV, idxAAV, idxSV, sliceV, sliceSV, boundV, szIs, storeOp, storeS, setRowV, eff, extV, buildV, splice, eqSV, fitsL, eqCells, eqCell, minmaxV, capV, binBV, nilCheckV, bytesV, V.cells, V.stays, Orc.nothing, a1, encNs_cells, encNs_stays])
      exact hnone (by rw [swapR, if_pos (.inr (.inl hbs))])
    · (refine Runs.of_step Orc.nothing 300 ?_; simp -implicitDefEqProofs only [BB, Int.reduceEq, Int.reduceNe, Int.reduceLT, Int.reduceLE, Int.reduceGT, Int.reduceGE, Nat.reduceEqDiff, Nat.reduceAdd, Nat.reduceMul, Nat.reduceLeDiff, Nat.reduceSub, Nat.reduceLT, Nat.reduceBEq, ↓reduceIte, reduceCtorEq, ← decide_not, okind, vpre, vpure, intBin, intPre, strBin, strPre, popTo, argSlots, fldV, fldAV, subCells, idxVV, idxAAV, idxSV, sliceV, sliceSV, boundV, szIs, storeOp, storeS, setRowV, eff, extV, buildV, splice, eqSV, fitsL, eqCells, eqCell, minmaxV, capV, binBV, nilCheckV, bytesV, V.cells, V.stays, Orc.nothing, a1, encNs_cells, encNs_stays, isZero_eq])
      refine And.intro (fun hz => ?_) (fun hz => ?_)
      · exact hnone (by rw [swapR, if_pos (.inr (.inr hz))])
      · have hz' : x.st = Sty.zero := Classical.not_not.1 hz
        have hsome : swapR l x = some (swapL l x to) := by
          rw [swapR, if_neg]
          · rw [hg]
          · rintro (h | h | h)
            · rw [hg] at h; cases h
            · rw [hbs] at h; cases h
            · exact h hz'
        rw [hsome]
        obtain ⟨rfl, g1, g2, g3, g4, g5, g6, _⟩ := goneR_facts hb hg
        refine Runs.call rfl rfl rfl (own9_o l hl _) ?_
        rintro r σ2 ⟨hsub2, hout⟩
        simp only at hsub2 hout
        have a10 := a1
        have a1 := hsub2 _ _ a1
        have hlen := hout.len
        rw [List.length_map] at hlen
        have hnat : ((x.pos.toNat : Nat) : Int) = x.pos := by omega
        have hpl : x.pos.toNat ≤ l.length := by omega
        have hpre : ∃ v, sliceV σ2 20 r none (some (vI x.pos)) (some (vI x.pos)) = some v ∧ ∃ idA, dstRows σ2 28 20 v = some ((l.take x.pos.toNat).map encN, idA) ∧ SubStore σ1 (delO σ2 idA) := by
          rcases hout with ⟨rfl, hr0⟩ | ⟨id, rfl, ho, hk⟩
          · have hl0 : l = [] := by cases l with | nil => rfl | cons a b => simp at hr0
            subst hl0
            have hp0 : x.pos = 0 := by simp at g3; omega
            rw [hp0]
            exact ⟨.nils, rfl, none, rfl, hsub2⟩
          · refine ⟨.own id 0 x.pos.toNat, ?_, some id, ?_, hsub2.delK hk⟩
            · simp only [sliceV, boundV, szIs, ho, List.length_map]
              rw [if_pos ⟨by omega, by omega, by omega, by omega, by simp⟩]
              simp
            · simp only [dstRows, ho, List.length_map]
              rw [if_pos ⟨trivial, trivial, trivial, hpl⟩, List.map_take]
        obtain ⟨v, hv, idA, hd, hdel⟩ := hpre
        (refine Runs.of_step Orc.nothing 300 ?_; simp -implicitDefEqProofs only [BB, Int.reduceEq, Int.reduceNe, Int.reduceLT, Int.reduceLE, Int.reduceGT, Int.reduceGE, Nat.reduceEqDiff, Nat.reduceAdd, Nat.reduceMul, Nat.reduceLeDiff, Nat.reduceSub, Nat.reduceLT, Nat.reduceBEq, ↓reduceIte, reduceCtorEq, ← decide_not, okind, vpre, vpure, intBin, intPre, strBin, strPre, popTo, argSlots, fldV, fldAV, subCells, idxVV, idxAAV, idxSV, sliceSV, boundV, szIs, storeOp, storeS, setRowV, eff, extV, buildV, splice, eqSV, fitsL, eqCells, eqCell, minmaxV, capV, binBV, nilCheckV, bytesV, V.cells, V.stays, Orc.nothing, a1, encNs_cells, encNs_stays, hv])
        refine Go.pcall rfl (own9_c x.sub hx) ?_
        have hlx : Sml (l.drop to.toNat) := ⟨by simp; omega, fun y hy => hl.2 y (List.mem_of_mem_drop hy)⟩
        have hsrc : ∀ (σ : Store) (l : List Nd), srcRows σ 20 (encNs l) = some (l.map encN) := fun σ l => by simp [encNs, srcRows]
        have hb1 : ((l.take x.pos.toNat).length + x.sub.length) * 177 ≤ 140737488355328 := by simp; omega
        (refine Go.of_step Orc.nothing 300 _ _ ?_; simp -implicitDefEqProofs only [BB, Int.reduceEq, Int.reduceNe, Int.reduceLT, Int.reduceLE, Int.reduceGT, Int.reduceGE, Nat.reduceEqDiff, Nat.reduceAdd, Nat.reduceMul, Nat.reduceLeDiff, Nat.reduceSub, Nat.reduceLT, Nat.reduceBEq, ↓reduceIte, reduceCtorEq, ← decide_not, okind, vpre, vpure, intBin, intPre, strBin, strPre, popTo, argSlots, fldV, fldAV, subCells, idxVV, idxAAV, idxSV, sliceV, sliceSV, boundV, szIs, storeOp, storeS, setRowV, eff, extV, buildV, splice, eqSV, fitsL, eqCells, eqCell, minmaxV, capV, binBV, nilCheckV, bytesV, V.cells, V.stays, Orc.nothing, a1, encNs_cells, encNs_stays, hd, hsrc, List.length_map, hb1])
        refine effD_put fun id2 σ3 s3 a2 f2 => ?_
        have hs3 := hdel.trans s3
        have a1 := hs3 _ _ a10
        have hto : to.toNat ≤ l.length := by omega
        have hsl := fun σ => sliceV_from (σ := σ) (l := l) (s := to) (by omega) g3
        simp -implicitDefEqProofs only [BB, Int.reduceEq, Int.reduceNe, Int.reduceLT, Int.reduceLE, Int.reduceGT, Int.reduceGE, Nat.reduceEqDiff, Nat.reduceAdd, Nat.reduceMul, Nat.reduceLeDiff, Nat.reduceSub, Nat.reduceLT, Nat.reduceBEq, ↓reduceIte, reduceCtorEq, ← decide_not, okind, vpre, vpure, intBin, intPre, strBin, strPre, popTo, argSlots, fldV, fldAV, subCells, idxVV, idxAAV, idxSV, sliceSV, boundV, szIs, storeOp, storeS, setRowV, eff, extV, buildV, splice, eqSV, fitsL, eqCells, eqCell, minmaxV, capV, binBV, nilCheckV, bytesV, V.cells, V.stays, a1, encNs_cells, encNs_stays, hsl]
        refine Go.pcall rfl (own9_c (l.drop to.toNat) hlx) ?_
        have hn2 : (l.take x.pos.toNat).length + x.sub.length = ((l.take x.pos.toNat).map encN ++ x.sub.map encN).length := by simp
        obtain ⟨idB, hd2, hdel2⟩ := (OutV.new (K := σ1) (e := 28) (sz := 20) hn2 a2 (hsub2.none f2)).dst (SubStore.refl _)
        have hb2 : (((l.take x.pos.toNat).length + x.sub.length) + (l.drop to.toNat).length) * 177 ≤ 140737488355328 := by simp; omega
        (refine Go.of_step Orc.nothing 300 _ _ ?_; simp -implicitDefEqProofs only [BB, Int.reduceEq, Int.reduceNe, Int.reduceLT, Int.reduceLE, Int.reduceGT, Int.reduceGE, Nat.reduceEqDiff, Nat.reduceAdd, Nat.reduceMul, Nat.reduceLeDiff, Nat.reduceSub, Nat.reduceLT, Nat.reduceBEq, ↓reduceIte, reduceCtorEq, ← decide_not, okind, vpre, vpure, intBin, intPre, strBin, strPre, popTo, argSlots, fldV, fldAV, subCells, idxVV, idxAAV, idxSV, sliceV, sliceSV, boundV, szIs, storeOp, storeS, setRowV, eff, extV, buildV, splice, eqSV, fitsL, eqCells, eqCell, minmaxV, capV, binBV, nilCheckV, bytesV, V.cells, V.stays, Orc.nothing, a1, encNs_cells, encNs_stays, hd2, hsrc, List.length_map, List.length_append, hb2])
        refine effD_put fun id3 σ4 s4 a3 f3 => ?_
        have hs4 := (hdel2 σ1 (SubStore.refl _) σ3 hs3).trans s4
        have a1 := hs4 _ _ a10
        have hf3 := hs3.none f3
        simp -implicitDefEqProofs only [BB, Int.reduceEq, Int.reduceNe, Int.reduceLT, Int.reduceLE, Int.reduceGT, Int.reduceGE, Nat.reduceEqDiff, Nat.reduceAdd, Nat.reduceMul, Nat.reduceLeDiff, Nat.reduceSub, Nat.reduceLT, Nat.reduceBEq, ↓reduceIte, reduceCtorEq, ← decide_not, okind, vpre, vpure, intBin, intPre, strBin, strPre, popTo, argSlots, fldV, fldAV, subCells, idxVV, idxAAV, idxSV, sliceV, sliceSV, boundV, szIs, storeOp, storeS, setRowV, eff, extV, buildV, splice, eqSV, fitsL, eqCells, eqCell, minmaxV, capV, binBV, nilCheckV, bytesV, V.cells, V.stays, a1, encNs_cells, encNs_stays, lenV_encNs]
        refine ⟨inR_i64 (by omega) (by omega), inR_i64 (by omega) (by omega), ?_⟩
        generalize hm : (x.sub.length : Int) - (to - x.pos) = more at *
        generalize ho0 : l.take x.pos.toNat ++ x.sub ++ l.drop to.toNat = out0 at *
        have hsw : swapL l x to = bumps more (ups l (l.length + 1) x.into) out0 := by rw [swapL, hm, ho0]
        have hrows : (l.take x.pos.toNat).map encN ++ x.sub.map encN ++ (l.drop to.toNat).map encN = out0.map encN := by rw [← ho0]; simp
        have hlen0 : out0.length = (l.take x.pos.toNat).length + x.sub.length + (l.drop to.toNat).length := by rw [← ho0]; simp only [List.length_append]
        have hlen1 : (x.pos : Int) ≤ out0.length := by rw [hlen0]; simp; omega
        have hget0 : ∀ i : Nat, (i : Int) < x.pos → out0[i]? = l[i]? := fun i hi => by
          rw [← ho0, List.append_assoc, List.getElem?_append_left (by simp; omega), List.getElem?_take, if_pos (by omega)]
        rw [hsw]
        refine Runs.loop (fun m st => ∃ (q : Int) (f : Nat) (out : List Nd), m = (q + 1).toNat ∧ -1 ≤ q ∧ q < x.pos ∧ q < f ∧ out.length = out0.length ∧ bumps more (ups l (l.length + 1) x.into) out0 = bumps more (ups l f q) out ∧
          (∀ i : Nat, (i : Int) ≤ q → out[i]? = l[i]?) ∧ SubStore σ1 st.σ ∧ OutV σ1 st.σ 28 20 (st.s 8) (out.map encN) ∧ st.s 1 = .ptr id1 0 0 ∧ st.s 9 = vI more ∧ st.s 10 = vI q) (x.into + 1).toNat ?_ ?_
        · refine ⟨x.into, l.length + 1, out0, rfl, g4, by omega, by omega, rfl, rfl, fun i hi => hget0 i (by omega), hs4, ?_, rfl, rfl, rfl⟩
          exact OutV.new (by simp [hlen0]) (a3.trans (by rw [hrows])) hf3
        · rintro m ⟨s, σ'⟩ ⟨q, f, out, rfl, q1, q2, qf, hol, heq, hget, hsub, hout, h1, h9, h10⟩
          simp only at hsub hout h1 h9 h10
          have a1 := hsub _ _ a10
          refine Runs.mix 12 ?_
          (refine Runs.of_step Orc.nothing 300 ?_; simp -implicitDefEqProofs only [BB, Int.reduceEq, Int.reduceNe, Int.reduceLT, Int.reduceLE, Int.reduceGT, Int.reduceGE, Nat.reduceEqDiff, Nat.reduceAdd, Nat.reduceMul, Nat.reduceLeDiff, Nat.reduceSub, Nat.reduceLT, Nat.reduceBEq, ↓reduceIte, reduceCtorEq, ← decide_not, okind, vpre, vpure, intBin, intPre, strBin, strPre, popTo, argSlots, fldV, fldAV, subCells, idxVV, idxAAV, idxSV, sliceV, sliceSV, boundV, szIs, storeOp, storeS, setRowV, eff, extV, buildV, splice, eqSV, fitsL, eqCells, eqCell, minmaxV, capV, binBV, nilCheckV, bytesV, V.cells, V.stays, Orc.nothing, h1, h9, h10])
          refine And.intro (fun hq => ?_) (fun hq => ?_)
          · obtain ⟨g, rfl, hu⟩ := ups_pos (l := l) (f := f) (by omega : (0:Int) ≤ q) (by omega)
            rw [hu, bumps] at heq
            have hqn : q.toNat < l.length := by omega
            have hqo : q.toNat < out.length := by omega
            have hge := hget q.toNat (by omega)
            rw [List.getElem?_eq_getElem hqn, List.getElem?_eq_getElem hqo] at hge
            have hge : out[q.toNat] = l[q.toNat] := by simpa using hge
            have hsz := szI_bound hb hqn
            have hse := szI_eq hqn
            rcases hout with ⟨hv8, hr0⟩ | ⟨id, hv8, ho, hk⟩
            · have : out = [] := by cases out with | nil => rfl | cons a b => simp at hr0
              rw [this] at hqo; simp at hqo
            · have hrow : (out.map encN)[q.toNat]? = some (.agg (Nd.cells out[q.toNat])) := by simp [hqo, encN]
              have hbu : bump more q.toNat out = out.set q.toNat { out[q.toNat] with size := out[q.toNat].size + more } := by
                rw [bump, List.getElem?_eq_getElem hqo]
              have hc : 0 ≤ q ∧ q < (out.length : Int) := by omega
              have hre : (bump more q.toNat out).map encN = (out.map encN).set q.toNat (encN { out[q.toNat] with size := out[q.toNat].size + more }) := by
                rw [hbu, List.map_set]
              have hszo : out[q.toNat].size = szI l q.toNat := by rw [hge, hse]
              rw [List.length_map] at hv8
              have hne : id1 ≠ id := by
                rintro rfl
                rw [a10] at hk; cases hk
              generalize out[q.toNat] = y at *
              simp only [encN, Nd.cells] at hre
              simp -implicitDefEqProofs only [BB, Int.reduceEq, Int.reduceNe, Int.reduceLT, Int.reduceLE, Int.reduceGT, Int.reduceGE, Nat.reduceEqDiff, Nat.reduceAdd, Nat.reduceMul, Nat.reduceLeDiff, Nat.reduceSub, Nat.reduceLT, Nat.reduceBEq, ↓reduceIte, reduceCtorEq, ← decide_not, okind, vpre, vpure, intBin, intPre, strBin, strPre, popTo, argSlots, fldV, fldAV, subCells, idxVV, idxAAV, idxSV, sliceV, sliceSV, boundV, szIs, storeOp, storeS, setRowV, eff, extV, buildV, splice, eqSV, fitsL, eqCells, eqCell, minmaxV, capV, binBV, nilCheckV, bytesV, V.cells, V.stays, h1, hv8, h9, h10, ho, hc, hrow, Nd.cells, hszo, a1, upd_ne hne, encNs_cells, encNs_stays]
              have hpq := parR_range l q.toNat
              refine ⟨inR_i64 (by omega) (by omega), ?_⟩
              have hpc := parent91_c l hl.fine hb q.toNat hqn
              rw [show ((q.toNat : Nat) : Int) = q by omega] at hpc
              refine Runs.pcall rfl rfl rfl (hpc _) ?_
              (refine Runs.of_step Orc.nothing 300 ?_; simp -implicitDefEqProofs only [BB, Int.reduceEq, Int.reduceNe, Int.reduceLT, Int.reduceLE, Int.reduceGT, Int.reduceGE, Nat.reduceEqDiff, Nat.reduceAdd, Nat.reduceMul, Nat.reduceLeDiff, Nat.reduceSub, Nat.reduceLT, Nat.reduceBEq, ↓reduceIte, reduceCtorEq, ← decide_not, okind, vpre, vpure, intBin, intPre, strBin, strPre, popTo, argSlots, fldV, fldAV, subCells, idxVV, idxAAV, idxSV, sliceV, sliceSV, boundV, szIs, storeOp, storeS, setRowV, eff, extV, buildV, splice, eqSV, fitsL, eqCells, eqCell, minmaxV, capV, binBV, nilCheckV, bytesV, V.cells, V.stays, Orc.nothing])
              rw [hszo] at hre
              rw [← hre]
              have hid1 : σ1 id = none := hk
              refine ⟨_, ?_, parR l q.toNat, g, bump more q.toNat out, rfl, by omega, by omega, by omega, by rw [bump_length, hol], heq, ?_, hsub.updK hid1, ?_, ?_, ?_, ?_⟩
              · omega
              · intro i hi
                exact (bump_get (m := more) (p := q.toNat) (i := i) (out := out) (by omega)).trans (hget i (by omega))
              · rw [hv8]; exact OutV.new (rows := (bump more q.toNat out).map encN) (by rw [List.length_map, bump_length]) upd_same hid1
              all_goals first | exact h1 | exact h9 | rfl | simp
          · have hq1 : q = -1 := by omega
            subst hq1
            rw [ups_neg (p := -1) (by omega), bumps] at heq
            rw [heq]
            have hss := s1.trans hsub
            have hw := hout.wk (K' := σ) s1 hss
            rcases hout with ⟨hv8, hr0⟩ | ⟨id, hv8, ho, hk⟩
            · rw [hv8] at hw
              simp -implicitDefEqProofs only [BB, Int.reduceEq, Int.reduceNe, Int.reduceLT, Int.reduceLE, Int.reduceGT, Int.reduceGE, Nat.reduceEqDiff, Nat.reduceAdd, Nat.reduceMul, Nat.reduceLeDiff, Nat.reduceSub, Nat.reduceLT, Nat.reduceBEq, ↓reduceIte, reduceCtorEq, ← decide_not, okind, vpre, vpure, intBin, intPre, strBin, strPre, popTo, argSlots, fldV, fldAV, subCells, idxVV, idxAAV, idxSV, sliceV, sliceSV, boundV, szIs, storeOp, storeS, setRowV, eff, extV, buildV, splice, eqSV, fitsL, eqCells, eqCell, minmaxV, capV, binBV, nilCheckV, bytesV, V.cells, V.stays, h1, hv8, h9, h10]
              exact ⟨_, σ, hss, Wk.tup (by simp only [WkL]; exact ⟨hw, Wk.refl hss _, trivial⟩), rfl, rfl⟩
            · rw [hv8] at hw
              simp -implicitDefEqProofs only [BB, Int.reduceEq, Int.reduceNe, Int.reduceLT, Int.reduceLE, Int.reduceGT, Int.reduceGE, Nat.reduceEqDiff, Nat.reduceAdd, Nat.reduceMul, Nat.reduceLeDiff, Nat.reduceSub, Nat.reduceLT, Nat.reduceBEq, ↓reduceIte, reduceCtorEq, ← decide_not, okind, vpre, vpure, intBin, intPre, strBin, strPre, popTo, argSlots, fldV, fldAV, subCells, idxVV, idxAAV, idxSV, sliceV, sliceSV, boundV, szIs, storeOp, storeS, setRowV, eff, extV, buildV, splice, eqSV, fitsL, eqCells, eqCell, minmaxV, capV, binBV, nilCheckV, bytesV, V.cells, V.stays, h1, hv8, h9, h10]
              exact ⟨_, σ, hss, Wk.tup (by simp only [WkL]; exact ⟨hw, Wk.refl hss _, trivial⟩), rfl, rfl⟩
end Go.Vc
namespace Go.Vc
open Go.Proofs
theorem restyle_sml {l : List Nd} {p : Nat} {s : Sty} (h : Sml l) : Sml (restyle l p s) := by
  refine ⟨by rw [restyle_length]; exact h.1, fun y hy => ?_⟩
  unfold restyle at hy
  split at hy
  · rename_i x hx
    rcases List.mem_or_eq_of_mem_set hy with hy | rfl
    · exact h.2 y hy
    · exact h.2 x (List.mem_of_getElem? hx)
  · exact h.2 y hy
theorem bump_words {m : Int} {p : Nat} {out : List Nd} {B : Nat} (h : ∀ x ∈ out, x.words.length ≤ B) : ∀ x ∈ bump m p out, x.words.length ≤ B := fun y hy => by
  unfold bump at hy
  split at hy
  · rename_i x hx
    rcases List.mem_or_eq_of_mem_set hy with hy | rfl
    · exact h y hy
    · exact h x (List.mem_of_getElem? hx)
  · exact h y hy
theorem bumps_words {m : Int} {B : Nat} : ∀ {ps : List Int} {out : List Nd}, (∀ x ∈ out, x.words.length ≤ B) → ∀ x ∈ bumps m ps out, x.words.length ≤ B
  | [], _, h => h
  | p :: ps, out, h => bumps_words (ps := ps) (bump_words h)
/-- half as many -/
def Hlf (l : List Nd) : Prop := l.length ≤ 5000 ∧ ∀ x ∈ l, x.words.length ≤ 1000000000
theorem Hlf.sml {l : List Nd} (h : Hlf l) : Sml l := ⟨by have := h.1; omega, h.2⟩
theorem swapL_sml {l : List Nd} {x : Ed} {to : Int} (hl : Hlf l) (hx : Hlf x.sub) (h : x.pos ≤ to) (h0 : 0 ≤ x.pos) : Sml (swapL l x to) := by
  obtain ⟨h1, h2⟩ := hl
  obtain ⟨h3, h4⟩ := hx
  refine ⟨?_, bumps_words fun y hy => ?_⟩
  · rw [swapL, bumps_length]; simp; omega
  · simp only [List.mem_append] at hy
    rcases hy with (hy | hy) | hy
    · exact h2 y (List.mem_of_mem_take hy)
    · exact h4 y hy
    · exact h2 y (List.mem_of_mem_drop hy)
/-- by the kind -/
def outR (l : List Nd) (x : Ed) : Option (List Nd) := if x.kind = 1 then swapR l x else styleR l x
def doR (l : List Nd) (x : Ed) : Option (List Nd) :=
  if isB l = false ∨ x.kind < 1 ∨ 2 < x.kind then none else
  match outR l x with
  | none => none
  | some out => if isB out = true then some out else none
def errV {α : Type} (o : Option α) : V := if o.isSome then vI 0 else vI 4
theorem outR_sml {l out : List Nd} {x : Ed} (hl : Hlf l) (hb : isB l = true) (hx : Hlf x.sub) (h : outR l x = some out) : Sml out := by
  unfold outR at h
  split at h
  · rw [swapR] at h
    split at h
    · cases h
    · rename_i hn
      simp only [Option.some.injEq] at h
      subst h
      have h1 : (goneR l x.into x.pos x.many).2.2 = true := by
        cases hh : (goneR l x.into x.pos x.many).2.2
        · exact absurd (.inl hh) hn
        · rfl
      rcases hg : goneR l x.into x.pos x.many with ⟨fr, to, ok⟩
      rw [hg] at h1
      simp only at h1
      subst h1
      obtain ⟨rfl, g1, g2, g3, g4, _⟩ := goneR_facts hb hg
      exact swapL_sml hl hx g2 (by omega)
  · rw [styleR] at h
    split at h
    · cases h
    · simp only [Option.some.injEq] at h
      subst h
      exact restyle_sml hl.sml
set_option maxRecDepth 100000 in
theorem do_c (l : List Nd) (x : Ed) (hl : Hlf l) (hx : Hlf x.sub) : PFun Try.prog 20 [encNs l, encE x] (.tup [optV (doR l x), errV (doR l x)]) := fun σ => by
  have hl1 := hl.1
  refine Contract.of_runs Try.func20 e20 k20 (by simp [c20]) ?_
  refine Runs.mix 8 ?_
  (refine Runs.of_step Orc.nothing 300 ?_; simp -implicitDefEqProofs only [BB, Int.reduceEq, Int.reduceNe, Int.reduceLT, Int.reduceLE, Int.reduceGT, Int.reduceGE, Nat.reduceEqDiff, Nat.reduceAdd, Nat.reduceMul, Nat.reduceLeDiff, Nat.reduceSub, Nat.reduceLT, Nat.reduceBEq, ↓reduceIte, reduceCtorEq, ← decide_not, okind, vpre, vpure, intBin, intPre, strBin, strPre, popTo, argSlots, fldV, fldAV, subCells, idxVV, idxAAV, idxSV, sliceV, sliceSV, boundV, szIs, storeOp, storeS, setRowV, eff, extV, buildV, splice, eqSV, fitsL, eqCells, eqCell, minmaxV, capV, binBV, nilCheckV, bytesV, V.cells, V.stays, Orc.nothing, c20, encE, Ed.cells, encNs_cells, encNs_stays])
  refine effR_new fun id1 σ1 s1 a1 f1 => ?_
  simp -implicitDefEqProofs only [BB, Int.reduceEq, Int.reduceNe, Int.reduceLT, Int.reduceLE, Int.reduceGT, Int.reduceGE, Nat.reduceEqDiff, Nat.reduceAdd, Nat.reduceMul, Nat.reduceLeDiff, Nat.reduceSub, Nat.reduceLT, Nat.reduceBEq, ↓reduceIte, reduceCtorEq, ← decide_not, okind, vpre, vpure, intBin, intPre, strBin, strPre, popTo, argSlots, fldV, fldAV, subCells, idxVV, idxAAV, idxSV, sliceV, sliceSV, boundV, szIs, storeOp, storeS, setRowV, eff, extV, buildV, splice, eqSV, fitsL, eqCells, eqCell, minmaxV, capV, binBV, nilCheckV, bytesV, V.cells, V.stays, a1, encNs_cells, encNs_stays]
  have hnone : doR l x = none → RetV (.tup [.nils, vI 4]) σ1 fun r σ' => r = .tup [optV (doR l x), errV (doR l x)] ∧ σ' = σ := fun h => by
    rw [h]
    exact ⟨_, σ, s1, Wk.tup (by simp only [WkL]; exact ⟨Wk.nils 20, Wk.refl s1 _, trivial⟩), rfl, rfl⟩
  refine Runs.pcall rfl rfl rfl (isv_c l hl.sml.fine _) ?_
  cases hb : isB l
  · (refine Runs.of_step Orc.nothing 300 ?_; simp -implicitDefEqProofs only [BB, Int.reduceEq, Int.reduceNe, Int.reduceLT, Int.reduceLE, Int.reduceGT, Int.reduceGE, Nat.reduceEqDiff, Nat.reduceAdd, Nat.reduceMul, Nat.reduceLeDiff, Nat.reduceSub, Nat.reduceLT, Nat.reduceBEq, ↓reduceIte, reduceCtorEq, ← decide_not, okind, vpre, vpure, intBin, intPre, strBin, strPre, popTo, argSlots, fldV, fldAV, subCells, idxVV, idxAAV, idxSV, sliceV, sliceSV, boundV, szIs, storeOp, storeS, setRowV, eff, extV, buildV, splice, eqSV, fitsL, eqCells, eqCell, minmaxV, capV, binBV, nilCheckV, bytesV, V.cells, V.stays, Orc.nothing, a1, encNs_cells, encNs_stays])
    exact hnone (by rw [doR, if_pos (.inl hb)])
  · (refine Runs.of_step Orc.nothing 300 ?_; simp -implicitDefEqProofs only [BB, Int.reduceEq, Int.reduceNe, Int.reduceLT, Int.reduceLE, Int.reduceGT, Int.reduceGE, Nat.reduceEqDiff, Nat.reduceAdd, Nat.reduceMul, Nat.reduceLeDiff, Nat.reduceSub, Nat.reduceLT, Nat.reduceBEq, ↓reduceIte, reduceCtorEq, ← decide_not, okind, vpre, vpure, intBin, intPre, strBin, strPre, popTo, argSlots, fldV, fldAV, subCells, idxVV, idxAAV, idxSV, sliceV, sliceSV, boundV, szIs, storeOp, storeS, setRowV, eff, extV, buildV, splice, eqSV, fitsL, eqCells, eqCell, minmaxV, capV, binBV, nilCheckV, bytesV, V.cells, V.stays, Orc.nothing, a1, encNs_cells, encNs_stays])
    refine And.intro (fun c1 => And.intro (fun c2 => hnone (by rw [doR, if_pos (.inr (.inr (by omega)))])) (fun c2 => ?_)) (fun c1 => hnone (by rw [doR, if_pos (.inr (.inl (by omega)))]))
    refine Go.pcall rfl outcomes_c ?_
    have hdo : doR l x = match outR l x with
      | none => none
      | some out => if isB out = true then some out else none := by
      rw [doR, if_neg]
      rintro (h | h | h)
      · rw [hb] at h; cases h
      · omega
      · omega
    have key : ∃ f, (x.kind = 1 ∧ f = 68 ∨ x.kind = 2 ∧ f = 69) ∧ PFun Try.prog f [encH x l] (.tup [optV (outR l x), .bool (outR l x).isSome]) := by
      by_cases hk : x.kind = 1
      · exact ⟨68, .inl ⟨hk, rfl⟩, by rw [outR, if_pos hk]; exact swap_c x l hl.sml hb hx.sml⟩
      · exact ⟨69, .inr ⟨by omega, rfl⟩, by rw [outR, if_neg hk]; exact style_c x l hl.sml⟩
    obtain ⟨f, hf, hfc⟩ := key
    have hidx : idxVV false 3 1 (.agg [.nilfn, .fn 68 [], .fn 69 []]) (.int .i64 x.kind) = some (.fn f []) := by
      rcases hf with ⟨hk, rfl⟩ | ⟨hk, rfl⟩ <;> rw [hk] <;> rfl
    have hbu : buildV [.int .i64 0, .int .i64 0, .int .i64 0, .int .i64 0, .nils, .int .i64 0, .int .i64 0, .int .i64 0, .int .i64 0, .int .i64 0, .int .i64 0, .int .i64 0, .int .i64 0, .int .i64 0, .int .i64 0, .int .i64 0, .int .i64 0, .nils]
        [(0, 17, encE x), (17, 1, encNs l)] = some [.int .i64 x.kind, .int .i64 x.into, .int .i64 x.pos, .int .i64 x.many, encNs x.sub, .int .i64 x.st.top, .int .i64 x.st.bottom, .int .i64 x.st.padTop, .int .i64 x.st.padBottom, .int .i64 x.st.inset, .int .i64 x.st.orphans, .int .i64 x.st.widows, .int .i64 x.st.head, .int .i64 x.st.before, .int .i64 x.st.after, .int .i64 x.st.inside, .int .i64 x.st.clear, encNs l] := rfl
    simp only [encE, Ed.cells] at hbu
    (refine Go.of_step Orc.nothing 300 _ _ ?_; simp -implicitDefEqProofs only [BB, Int.reduceEq, Int.reduceNe, Int.reduceLT, Int.reduceLE, Int.reduceGT, Int.reduceGE, Nat.reduceEqDiff, Nat.reduceAdd, Nat.reduceMul, Nat.reduceLeDiff, Nat.reduceSub, Nat.reduceLT, Nat.reduceBEq, ↓reduceIte, reduceCtorEq, ← decide_not, okind, vpre, vpure, intBin, intPre, strBin, strPre, popTo, argSlots, fldV, fldAV, subCells, idxAAV, idxSV, sliceV, sliceSV, boundV, szIs, storeOp, storeS, setRowV, eff, extV, splice, eqSV, fitsL, eqCells, eqCell, minmaxV, capV, binBV, nilCheckV, bytesV, V.cells, V.stays, Orc.nothing, a1, encNs_cells, encNs_stays, hidx, hbu])
    refine Go.pcall rfl hfc ?_
    have hsml := fun out (h : outR l x = some out) => outR_sml hl hb hx h
    rw [hdo]
    rw [hdo] at hnone
    generalize outR l x = o at *
    cases o with
    | none =>
      (refine Go.of_step Orc.nothing 300 _ _ ?_; simp -implicitDefEqProofs only [BB, Int.reduceEq, Int.reduceNe, Int.reduceLT, Int.reduceLE, Int.reduceGT, Int.reduceGE, Nat.reduceEqDiff, Nat.reduceAdd, Nat.reduceMul, Nat.reduceLeDiff, Nat.reduceSub, Nat.reduceLT, Nat.reduceBEq, ↓reduceIte, reduceCtorEq, ← decide_not, okind, vpre, vpure, intBin, intPre, strBin, strPre, popTo, argSlots, fldV, fldAV, subCells, idxVV, idxAAV, idxSV, sliceV, sliceSV, boundV, szIs, storeOp, storeS, setRowV, eff, extV, buildV, splice, eqSV, fitsL, eqCells, eqCell, minmaxV, capV, binBV, nilCheckV, bytesV, V.cells, V.stays, Orc.nothing, a1, encNs_cells, encNs_stays, optV, Option.isSome_none, Option.getD_none])
      exact hnone rfl
    | some out =>
      (refine Go.of_step Orc.nothing 300 _ _ ?_; simp -implicitDefEqProofs only [BB, Int.reduceEq, Int.reduceNe, Int.reduceLT, Int.reduceLE, Int.reduceGT, Int.reduceGE, Nat.reduceEqDiff, Nat.reduceAdd, Nat.reduceMul, Nat.reduceLeDiff, Nat.reduceSub, Nat.reduceLT, Nat.reduceBEq, ↓reduceIte, reduceCtorEq, ← decide_not, okind, vpre, vpure, intBin, intPre, strBin, strPre, popTo, argSlots, fldV, fldAV, subCells, idxVV, idxAAV, idxSV, sliceV, sliceSV, boundV, szIs, storeOp, storeS, setRowV, eff, extV, buildV, splice, eqSV, fitsL, eqCells, eqCell, minmaxV, capV, binBV, nilCheckV, bytesV, V.cells, V.stays, Orc.nothing, a1, encNs_cells, encNs_stays, optV, Option.isSome_some, Option.getD_some])
      refine Runs.pcall rfl rfl rfl (isv_c out (hsml out rfl).fine _) ?_
      simp only at hnone ⊢
      cases hbo : isB out
      · rw [hbo] at hnone
        (refine Runs.of_step Orc.nothing 300 ?_; simp -implicitDefEqProofs only [BB, Int.reduceEq, Int.reduceNe, Int.reduceLT, Int.reduceLE, Int.reduceGT, Int.reduceGE, Nat.reduceEqDiff, Nat.reduceAdd, Nat.reduceMul, Nat.reduceLeDiff, Nat.reduceSub, Nat.reduceLT, Nat.reduceBEq, ↓reduceIte, reduceCtorEq, ← decide_not, okind, vpre, vpure, intBin, intPre, strBin, strPre, popTo, argSlots, fldV, fldAV, subCells, idxVV, idxAAV, idxSV, sliceV, sliceSV, boundV, szIs, storeOp, storeS, setRowV, eff, extV, buildV, splice, eqSV, fitsL, eqCells, eqCell, minmaxV, capV, binBV, nilCheckV, bytesV, V.cells, V.stays, Orc.nothing, a1])
        exact hnone (by simp)
      · (refine Runs.of_step Orc.nothing 300 ?_; simp -implicitDefEqProofs only [BB, Int.reduceEq, Int.reduceNe, Int.reduceLT, Int.reduceLE, Int.reduceGT, Int.reduceGE, Nat.reduceEqDiff, Nat.reduceAdd, Nat.reduceMul, Nat.reduceLeDiff, Nat.reduceSub, Nat.reduceLT, Nat.reduceBEq, ↓reduceIte, reduceCtorEq, ← decide_not, okind, vpre, vpure, intBin, intPre, strBin, strPre, popTo, argSlots, fldV, fldAV, subCells, idxVV, idxAAV, idxSV, sliceV, sliceSV, boundV, szIs, storeOp, storeS, setRowV, eff, extV, buildV, splice, eqSV, fitsL, eqCells, eqCell, minmaxV, capV, binBV, nilCheckV, bytesV, V.cells, V.stays, Orc.nothing, a1])
        exact RetV.pure s1 rfl
end Go.Vc
namespace Go.Vc
open Go.Proofs
def Ed.zero : Ed := ⟨0, 0, 0, 0, [], Sty.zero⟩
def stI (l : List Nd) (i : Nat) : Sty := ((l[i]?).map Nd.st).getD Sty.zero
theorem stI_eq {l : List Nd} {i : Nat} (h : i < l.length) : stI l i = l[i].st := by simp [stI, List.getElem?_eq_getElem h]
def cutL (l : List Nd) (a e : Int) : List Nd := (l.drop a.toNat).take (e.toNat - a.toNat)
def backR (l : List Nd) (x : Ed) : Ed :=
  if x.kind = 2 then ⟨2, 0, x.pos, 0, [], stI l x.pos.toNat⟩
  else ⟨1, x.into, x.pos, (kidsR x.sub (-1)).length, cutL l x.pos (goneR l x.into x.pos x.many).2.1, Sty.zero⟩
def backC (l : List Nd) (x : Ed) : Ed := if (doR l x).isSome then backR l x else Ed.zero
theorem wk_edN {σ σ' : Store} (h : SubStore σ' σ) (k i p m : Int) (s : Sty) : Wk σ σ' (.agg [.int .i64 k, .int .i64 i, .int .i64 p, .int .i64 m, .nils, .int .i64 s.top, .int .i64 s.bottom, .int .i64 s.padTop, .int .i64 s.padBottom, .int .i64 s.inset, .int .i64 s.orphans, .int .i64 s.widows, .int .i64 s.head, .int .i64 s.before, .int .i64 s.after, .int .i64 s.inside, .int .i64 s.clear]) (encE ⟨k, i, p, m, [], s⟩) := by
  simp only [encE, Ed.cells]
  refine Wk.agg ?_
  simp only [WkL]
  exact ⟨Wk.refl h _, Wk.refl h _, Wk.refl h _, Wk.refl h _, Wk.nils 20, Wk.refl h _, Wk.refl h _, Wk.refl h _, Wk.refl h _, Wk.refl h _, Wk.refl h _, Wk.refl h _, Wk.refl h _, Wk.refl h _, Wk.refl h _, Wk.refl h _, Wk.refl h _, trivial⟩
theorem doR_some {l out : List Nd} {x : Ed} (h : doR l x = some out) : isB l = true ∧ isB out = true ∧ outR l x = some out ∧ (x.kind = 1 ∨ x.kind = 2) := by
  rw [doR] at h
  split at h
  · cases h
  · rename_i hn
    have hb : isB l = true := by
      cases hb : isB l
      · exact absurd (.inl hb) hn
      · rfl
    split at h
    · cases h
    · rename_i o ho
      split at h
      · rename_i hbo
        simp only [Option.some.injEq] at h
        subst h
        exact ⟨hb, hbo, ho, by omega⟩
      · cases h
theorem swapR_some {l out : List Nd} {x : Ed} (h : swapR l x = some out) : ∃ to, goneR l x.into x.pos x.many = (x.pos, to, true) ∧ isB x.sub = true ∧ x.st = Sty.zero ∧ out = swapL l x to := by
  rw [swapR] at h
  split at h
  · cases h
  · rename_i hn
    simp only [Option.some.injEq] at h
    have h1 : (goneR l x.into x.pos x.many).2.2 = true := by
      cases hh : (goneR l x.into x.pos x.many).2.2
      · exact absurd (.inl hh) hn
      · rfl
    have h2 : isB x.sub = true := by
      cases hh : isB x.sub
      · exact absurd (.inr (.inl hh)) hn
      · rfl
    have h3 : x.st = Sty.zero := by
      by_cases hh : x.st = Sty.zero
      · exact hh
      · exact absurd (.inr (.inr hh)) hn
    have hgo : goneR l x.into x.pos x.many = ((goneR l x.into x.pos x.many).1, (goneR l x.into x.pos x.many).2.1, true) := by rw [← h1]
    have h4 : (goneR l x.into x.pos x.many).1 = x.pos := by
      rw [goneR] at h1 ⊢
      split
      · rename_i h5; rw [if_pos h5] at h1; cases h1
      · rename_i h5
        rw [if_neg h5] at h1
        split
        · rename_i h6; rw [if_pos h6] at h1; cases h1
        · rfl
    rw [h4] at hgo
    exact ⟨_, hgo, h2, h3, h.symm⟩
theorem styleR_some {l out : List Nd} {x : Ed} (h : styleR l x = some out) : blockR l x.pos = true ∧ x.into = 0 ∧ x.many = 0 ∧ x.sub = [] ∧ out = restyle l x.pos.toNat x.st := by
  rw [styleR] at h
  split at h
  · cases h
  · rename_i hn
    simp only [Option.some.injEq] at h
    have h1 : blockR l x.pos = true := by
      cases hh : blockR l x.pos
      · exact absurd (.inl hh) hn
      · rfl
    have h2 : x.sub = [] := by
      cases hs : x.sub with
      | nil => rfl
      | cons a b => exact absurd (.inr (.inr (.inr (by simp [hs])))) hn
    exact ⟨h1, by omega, by omega, h2, h.symm⟩
theorem blockR_lt {l : List Nd} {a : Int} (h : blockR l a = true) : 0 ≤ a ∧ a.toNat < l.length ∧ kdI l a.toNat = 1 := by
  simp only [blockR, Bool.and_eq_true, decide_eq_true_eq] at h
  have := hasI_iff.1 h.1
  exact ⟨this.1, by omega, h.2⟩
set_option maxRecDepth 100000 in
theorem back_c (l : List Nd) (x : Ed) (hl : Hlf l) (hx : Hlf x.sub) : PFun Try.prog 21 [encNs l, encE x] (.tup [encE (backC l x), errV (doR l x)]) := fun σ => by
  have hl1 := hl.1
  obtain ⟨res, hres⟩ : ∃ v, v = encE (backC l x) := ⟨_, rfl⟩
  rw [← hres]
  refine Contract.of_runs Try.func21 e21 k21 (by simp [c21]) ?_
  refine Runs.mix 12 ?_
  (refine Runs.of_step Orc.nothing 300 ?_; simp -implicitDefEqProofs only [BB, Int.reduceEq, Int.reduceNe, Int.reduceLT, Int.reduceLE, Int.reduceGT, Int.reduceGE, Nat.reduceEqDiff, Nat.reduceAdd, Nat.reduceMul, Nat.reduceLeDiff, Nat.reduceSub, Nat.reduceLT, Nat.reduceBEq, ↓reduceIte, reduceCtorEq, ← decide_not, okind, vpre, vpure, intBin, intPre, strBin, strPre, popTo, argSlots, fldV, fldAV, subCells, idxVV, idxAAV, idxSV, sliceV, sliceSV, boundV, szIs, storeOp, storeS, setRowV, eff, extV, buildV, splice, eqSV, fitsL, eqCells, eqCell, minmaxV, capV, binBV, nilCheckV, bytesV, V.cells, V.stays, Orc.nothing, c21, encE, Ed.cells, encNs_cells, encNs_stays])
  refine effR_new fun id1 σ1 s1 a1 f1 => ?_
  simp -implicitDefEqProofs only [BB, Int.reduceEq, Int.reduceNe, Int.reduceLT, Int.reduceLE, Int.reduceGT, Int.reduceGE, Nat.reduceEqDiff, Nat.reduceAdd, Nat.reduceMul, Nat.reduceLeDiff, Nat.reduceSub, Nat.reduceLT, Nat.reduceBEq, ↓reduceIte, reduceCtorEq, ← decide_not, okind, vpre, vpure, intBin, intPre, strBin, strPre, popTo, argSlots, fldV, fldAV, subCells, idxVV, idxAAV, idxSV, sliceV, sliceSV, boundV, szIs, storeOp, storeS, setRowV, eff, extV, buildV, splice, eqSV, fitsL, eqCells, eqCell, minmaxV, capV, binBV, nilCheckV, bytesV, V.cells, V.stays, a1, encNs_cells, encNs_stays]
  refine effR_new fun id2 σ2 s2 a2 f2 => ?_
  have n12 := ne_new a1 f2
  have a10 := s2 _ _ a1
  have hs := s1.trans s2
  simp -implicitDefEqProofs only [BB, Int.reduceEq, Int.reduceNe, Int.reduceLT, Int.reduceLE, Int.reduceGT, Int.reduceGE, Nat.reduceEqDiff, Nat.reduceAdd, Nat.reduceMul, Nat.reduceLeDiff, Nat.reduceSub, Nat.reduceLT, Nat.reduceBEq, ↓reduceIte, reduceCtorEq, ← decide_not, okind, vpre, vpure, intBin, intPre, strBin, strPre, popTo, argSlots, fldV, fldAV, subCells, idxVV, idxAAV, idxSV, sliceV, sliceSV, boundV, szIs, storeOp, storeS, setRowV, eff, extV, buildV, splice, eqSV, fitsL, eqCells, eqCell, minmaxV, capV, binBV, nilCheckV, bytesV, V.cells, V.stays, a10, a2, encNs_cells, encNs_stays]
  refine Runs.pcall rfl rfl rfl (do_c l x hl hx _) ?_
  have g2 := s1.none f2
  cases hd : doR l x with
  | none =>
    (refine Runs.of_step Orc.nothing 300 ?_; simp -implicitDefEqProofs only [BB, Int.reduceEq, Int.reduceNe, Int.reduceLT, Int.reduceLE, Int.reduceGT, Int.reduceGE, Nat.reduceEqDiff, Nat.reduceAdd, Nat.reduceMul, Nat.reduceLeDiff, Nat.reduceSub, Nat.reduceLT, Nat.reduceBEq, ↓reduceIte, reduceCtorEq, ← decide_not, okind, vpre, vpure, intBin, intPre, strBin, strPre, popTo, argSlots, fldV, fldAV, subCells, idxVV, idxAAV, idxSV, sliceV, sliceSV, boundV, szIs, storeOp, storeS, setRowV, eff, extV, buildV, splice, eqSV, fitsL, eqCells, eqCell, minmaxV, capV, binBV, nilCheckV, bytesV, V.cells, V.stays, Orc.nothing, errV, optV, Option.isSome_none, Option.getD_none, a10, a2, encNs_cells, encNs_stays])
    have hbc : backC l x = Ed.zero := by rw [backC, hd]; rfl
    rw [hbc] at hres
    have hsf := hs.updK g2 (o := ⟨39, 17, [.agg [.int .i64 0, .int .i64 0, .int .i64 0, .int .i64 0, .nils, .int .i64 0, .int .i64 0, .int .i64 0, .int .i64 0, .int .i64 0, .int .i64 0, .int .i64 0, .int .i64 0, .int .i64 0, .int .i64 0, .int .i64 0, .int .i64 0]]⟩)
    refine ⟨.tup [encE Ed.zero, vI 4], σ, hsf, Wk.tup ?_, by rw [hres], rfl⟩
    simp only [WkL]
    exact ⟨wk_edN hsf 0 0 0 0 Sty.zero, Wk.refl hsf _, trivial⟩
  | some out =>
    have hbc : backC l x = backR l x := by rw [backC, hd]; rfl
    rw [hbc] at hres
    obtain ⟨hb, hbo, hout, hk⟩ := doR_some hd
    (refine Runs.of_step Orc.nothing 300 ?_; simp -implicitDefEqProofs only [BB, Int.reduceEq, Int.reduceNe, Int.reduceLT, Int.reduceLE, Int.reduceGT, Int.reduceGE, Nat.reduceEqDiff, Nat.reduceAdd, Nat.reduceMul, Nat.reduceLeDiff, Nat.reduceSub, Nat.reduceLT, Nat.reduceBEq, ↓reduceIte, reduceCtorEq, ← decide_not, okind, vpre, vpure, intBin, intPre, strBin, strPre, popTo, argSlots, fldV, fldAV, subCells, idxVV, idxAAV, idxSV, sliceV, sliceSV, boundV, szIs, storeOp, storeS, setRowV, eff, extV, splice, eqSV, fitsL, eqCells, eqCell, minmaxV, capV, binBV, nilCheckV, bytesV, Orc.nothing, errV, optV, Option.isSome_some, Option.getD_some, a10, a2, encNs_cells, encNs_stays, V.cells_agg, V.cells_int, V.cells_nils, V.cells_own, V.cells_sl, V.cells_str, V.cells_bool, V.cells_fn, V.cells_ptr, V.cells_rp, V.stays_agg, V.stays_int, V.stays_nils, V.stays_own, V.stays_sl, V.stays_str, V.stays_bool, V.stays_fn, V.stays_ptr, V.stays_rp])
    refine And.intro (fun hk2 => ?_) (fun hk2 => ?_)
    · rw [outR, if_neg (by omega)] at hout
      obtain ⟨hbl, h1, h2, h3, h4⟩ := styleR_some hout
      obtain ⟨hp0, hp, _⟩ := blockR_lt hbl
      have hx := idxAV_encNsI (σ := σ2) hp0 hp
      have hst := stI_eq hp
      have hsb : ∀ (k p : Int) (s : Sty), buildV [.int .i64 0, .int .i64 0, .int .i64 0, .int .i64 0, .nils, .int .i64 0, .int .i64 0, .int .i64 0, .int .i64 0, .int .i64 0, .int .i64 0, .int .i64 0, .int .i64 0, .int .i64 0, .int .i64 0, .int .i64 0, .int .i64 0]
          [(0, 1, .int .i64 k), (2, 1, .int .i64 p), (5, 12, .agg [vI s.top, vI s.bottom, vI s.padTop, vI s.padBottom, vI s.inset, vI s.orphans, vI s.widows, vI s.head, vI s.before, vI s.after, vI s.inside, vI s.clear])] = some [.int .i64 k, .int .i64 0, .int .i64 p, .int .i64 0, .nils, .int .i64 s.top, .int .i64 s.bottom, .int .i64 s.padTop, .int .i64 s.padBottom, .int .i64 s.inset, .int .i64 s.orphans, .int .i64 s.widows, .int .i64 s.head, .int .i64 s.before, .int .i64 s.after, .int .i64 s.inside, .int .i64 s.clear] := fun _ _ _ => rfl
      rw [hk2]
      simp -implicitDefEqProofs only [BB, Int.reduceEq, Int.reduceNe, Int.reduceLT, Int.reduceLE, Int.reduceGT, Int.reduceGE, Nat.reduceEqDiff, Nat.reduceAdd, Nat.reduceMul, Nat.reduceLeDiff, Nat.reduceSub, Nat.reduceLT, Nat.reduceBEq, ↓reduceIte, reduceCtorEq, ← decide_not, okind, vpre, vpure, intBin, intPre, strBin, strPre, popTo, argSlots, fldV, fldAV, subCells, idxVV, idxAAV, idxSV, sliceV, sliceSV, boundV, szIs, storeOp, storeS, setRowV, eff, extV, splice, eqSV, fitsL, eqCells, eqCell, minmaxV, capV, binBV, nilCheckV, bytesV, hx, Nd.cells, hst, hsb, a10, a2, encNs_cells, encNs_stays, V.cells_agg, V.cells_int, V.cells_nils, V.cells_own, V.cells_sl, V.cells_str, V.cells_bool, V.cells_fn, V.cells_ptr, V.cells_rp, V.stays_agg, V.stays_int, V.stays_nils, V.stays_own, V.stays_sl, V.stays_str, V.stays_bool, V.stays_fn, V.stays_ptr, V.stays_rp, hk2]
      have hbk : backR l x = ⟨2, 0, x.pos, 0, [], stI l x.pos.toNat⟩ := by rw [backR, if_pos hk2]
      rw [hbk] at hres
      rw [hst] at hres
      refine ⟨_, σ, ?_, Wk.tup ?_, by rw [hres], rfl⟩
      · exact hs.updK g2
      · simp only [WkL]
        exact ⟨wk_edN (hs.updK g2) 2 0 x.pos 0 _, Wk.refl (hs.updK g2) _, trivial⟩
    · have hk1 : x.kind = 1 := by omega
      rw [outR, if_pos hk1] at hout
      obtain ⟨to, hg, hbs, hz, ho⟩ := swapR_some hout
      have hbk : backR l x = ⟨1, x.into, x.pos, (kidsR x.sub (-1)).length, cutL l x.pos to, Sty.zero⟩ := by rw [backR, if_neg (by omega), hg]
      rw [hbk] at hres
      have hgc := gone_c x l hl.sml.fine hb
      rw [hg] at hgc
      obtain ⟨_, e1, e2, e3, _⟩ := goneR_facts hb hg
      have hbu : buildV [.int .i64 0, .int .i64 0, .int .i64 0, .int .i64 0, .nils, .int .i64 0, .int .i64 0, .int .i64 0, .int .i64 0, .int .i64 0, .int .i64 0, .int .i64 0, .int .i64 0, .int .i64 0, .int .i64 0, .int .i64 0, .int .i64 0, .nils]
          [(0, 17, encE x), (17, 1, encNs l)] = some [.int .i64 x.kind, .int .i64 x.into, .int .i64 x.pos, .int .i64 x.many, encNs x.sub, .int .i64 x.st.top, .int .i64 x.st.bottom, .int .i64 x.st.padTop, .int .i64 x.st.padBottom, .int .i64 x.st.inset, .int .i64 x.st.orphans, .int .i64 x.st.widows, .int .i64 x.st.head, .int .i64 x.st.before, .int .i64 x.st.after, .int .i64 x.st.inside, .int .i64 x.st.clear, encNs l] := rfl
      simp only [encE, Ed.cells] at hbu
      simp -implicitDefEqProofs only [BB, Int.reduceEq, Int.reduceNe, Int.reduceLT, Int.reduceLE, Int.reduceGT, Int.reduceGE, Nat.reduceEqDiff, Nat.reduceAdd, Nat.reduceMul, Nat.reduceLeDiff, Nat.reduceSub, Nat.reduceLT, Nat.reduceBEq, ↓reduceIte, reduceCtorEq, ← decide_not, okind, vpre, vpure, intBin, intPre, strBin, strPre, popTo, argSlots, fldV, fldAV, subCells, idxVV, idxAAV, idxSV, sliceV, sliceSV, boundV, szIs, storeOp, storeS, setRowV, eff, extV, splice, eqSV, fitsL, eqCells, eqCell, minmaxV, capV, binBV, nilCheckV, bytesV, hbu, a10, a2, encNs_cells, encNs_stays, V.cells_agg, V.cells_int, V.cells_nils, V.cells_own, V.cells_sl, V.cells_str, V.cells_bool, V.cells_fn, V.cells_ptr, V.cells_rp, V.stays_agg, V.stays_int, V.stays_nils, V.stays_own, V.stays_sl, V.stays_str, V.stays_bool, V.stays_fn, V.stays_ptr, V.stays_rp]
      refine Runs.pcall rfl rfl rfl (hgc _) ?_
      (refine Runs.of_step Orc.nothing 300 ?_; simp -implicitDefEqProofs only [BB, Int.reduceEq, Int.reduceNe, Int.reduceLT, Int.reduceLE, Int.reduceGT, Int.reduceGE, Nat.reduceEqDiff, Nat.reduceAdd, Nat.reduceMul, Nat.reduceLeDiff, Nat.reduceSub, Nat.reduceLT, Nat.reduceBEq, ↓reduceIte, reduceCtorEq, ← decide_not, okind, vpre, vpure, intBin, intPre, strBin, strPre, popTo, argSlots, fldV, fldAV, subCells, idxVV, idxAAV, idxSV, sliceV, sliceSV, boundV, szIs, storeOp, storeS, setRowV, eff, extV, buildV, splice, eqSV, fitsL, eqCells, eqCell, minmaxV, capV, binBV, nilCheckV, bytesV, Orc.nothing, a10, a2, encNs_cells, encNs_stays, V.cells_agg, V.cells_int, V.cells_nils, V.cells_own, V.cells_sl, V.cells_str, V.cells_bool, V.cells_fn, V.cells_ptr, V.cells_rp, V.stays_agg, V.stays_int, V.stays_nils, V.stays_own, V.stays_sl, V.stays_str, V.stays_bool, V.stays_fn, V.stays_ptr, V.stays_rp])
      refine Go.pcall rfl (tops_c x.sub hx.sml.fine hbs) ?_
      have hsl := fun σ => sliceV_encNs (σ := σ) (l := l) (s := x.pos) (e := to) (by omega) e2 e3
      have hcut : (l.drop x.pos.toNat).take (to.toNat - x.pos.toNat) = cutL l x.pos to := rfl
      rw [hcut] at hsl
      have hlc : Sml (cutL l x.pos to) := ⟨by rw [cutL]; simp; omega, fun y hy => hl.2 y (List.mem_of_mem_drop (List.mem_of_mem_take hy))⟩
      (refine Go.of_step Orc.nothing 300 _ _ ?_; simp -implicitDefEqProofs only [BB, Int.reduceEq, Int.reduceNe, Int.reduceLT, Int.reduceLE, Int.reduceGT, Int.reduceGE, Nat.reduceEqDiff, Nat.reduceAdd, Nat.reduceMul, Nat.reduceLeDiff, Nat.reduceSub, Nat.reduceLT, Nat.reduceBEq, ↓reduceIte, reduceCtorEq, ← decide_not, okind, vpre, vpure, intBin, intPre, strBin, strPre, popTo, argSlots, fldV, fldAV, subCells, idxVV, idxAAV, idxSV, sliceSV, boundV, szIs, storeOp, storeS, setRowV, eff, extV, buildV, splice, eqSV, fitsL, eqCells, eqCell, minmaxV, capV, binBV, nilCheckV, bytesV, Orc.nothing, a10, a2, encNs_cells, encNs_stays, V.cells_agg, V.cells_int, V.cells_nils, V.cells_own, V.cells_sl, V.cells_str, V.cells_bool, V.cells_fn, V.cells_ptr, V.cells_rp, V.stays_agg, V.stays_int, V.stays_nils, V.stays_own, V.stays_sl, V.stays_str, V.stays_bool, V.stays_fn, V.stays_ptr, V.stays_rp, hsl])
      refine Go.pcall rfl (own9_c (cutL l x.pos to) hlc) ?_
      have hsb : ∀ (k i p m : Int) (s : List Nd), buildV [.int .i64 0, .int .i64 0, .int .i64 0, .int .i64 0, .nils, .int .i64 0, .int .i64 0, .int .i64 0, .int .i64 0, .int .i64 0, .int .i64 0, .int .i64 0, .int .i64 0, .int .i64 0, .int .i64 0, .int .i64 0, .int .i64 0]
          [(0, 1, .int .i64 k), (1, 1, .int .i64 i), (2, 1, .int .i64 p), (3, 1, .int .i64 m), (4, 1, encNs s)] = some [.int .i64 k, .int .i64 i, .int .i64 p, .int .i64 m, encNs s, .int .i64 0, .int .i64 0, .int .i64 0, .int .i64 0, .int .i64 0, .int .i64 0, .int .i64 0, .int .i64 0, .int .i64 0, .int .i64 0, .int .i64 0, .int .i64 0] := fun _ _ _ _ _ => rfl
      (refine Go.of_step Orc.nothing 300 _ _ ?_; simp -implicitDefEqProofs only [BB, Int.reduceEq, Int.reduceNe, Int.reduceLT, Int.reduceLE, Int.reduceGT, Int.reduceGE, Nat.reduceEqDiff, Nat.reduceAdd, Nat.reduceMul, Nat.reduceLeDiff, Nat.reduceSub, Nat.reduceLT, Nat.reduceBEq, ↓reduceIte, reduceCtorEq, ← decide_not, okind, vpre, vpure, intBin, intPre, strBin, strPre, popTo, argSlots, fldV, fldAV, subCells, idxVV, idxAAV, idxSV, sliceV, sliceSV, boundV, szIs, storeOp, storeS, setRowV, eff, extV, splice, eqSV, fitsL, eqCells, eqCell, minmaxV, capV, binBV, nilCheckV, bytesV, Orc.nothing, a10, a2, encNs_cells, encNs_stays, V.cells_agg, V.cells_int, V.cells_nils, V.cells_own, V.cells_sl, V.cells_str, V.cells_bool, V.cells_fn, V.cells_ptr, V.cells_rp, V.stays_agg, V.stays_int, V.stays_nils, V.stays_own, V.stays_sl, V.stays_str, V.stays_bool, V.stays_fn, V.stays_ptr, V.stays_rp, hsb, hk1])
      exact RetV.pure (hs.updK g2) (by rw [hres]; rfl)
end Go.Vc
namespace Go.Vc
open Go.Proofs
theorem endS_none {pos many : Int} : ∀ {p : List Int}, (∀ x ∈ p, x ≠ pos) → endS pos many p = -1
  | [], _ => rfl
  | q :: r, h => by
    rw [endS, if_neg (fun hh => h q (by simp) hh.1)]
    exact endS_none fun x hx => h x (by simp [hx])
theorem endS_eq {pos many : Int} (hm : 0 ≤ many) : ∀ {a : Int} (p : List Int) (i : Nat), Srt a p →
    endS pos many p = if idxI pos p i < 0 ∨ many ≥ (p.length : Int) + i - idxI pos p i then -1 else (p[(idxI pos p i - i + many).toNat]?).getD 0
  | _, [], i, _ => by simp [endS, idxI]
  | a, q :: r, i, ⟨h1, h2⟩ => by
    rw [endS, idxI]
    by_cases hq : pos = q
    · subst hq
      rw [if_pos rfl]
      by_cases hlt : many < (r.length : Int) + 1
      · rw [if_pos ⟨rfl, hlt⟩, if_neg (by simp; omega)]
        congr 2
        omega
      · rw [if_neg (fun h => hlt h.2), if_pos (by simp; omega)]
        exact endS_none fun x hx => by have := Srt.ge h2 x hx; omega
    · rw [if_neg (fun h => hq h.1.symm), if_neg hq, endS_eq hm r (i + 1) h2]
      have hr := idxI_range pos r (i + 1)
      by_cases hc : idxI pos r (i + 1) < 0 ∨ many ≥ (r.length : Int) + ((i + 1 : Nat) : Int) - idxI pos r (i + 1)
      · rw [if_pos hc, if_pos (by simp only [List.length_cons]; omega)]
      · rw [if_neg hc, if_neg (by simp only [List.length_cons]; omega)]
        have e : (idxI pos r (i + 1) - (i : Int) + many).toNat = (idxI pos r (i + 1) - ((i + 1 : Nat) : Int) + many).toNat + 1 := by omega
        rw [e, List.getElem?_cons_succ]
/-- the two tell the same -/
theorem gone_end {l : List Nd} (hb : isB l = true) (into pos many : Int) :
    (goneR l into pos many).2.2 = decide (0 ≤ endR l into pos many) ∧ ((goneR l into pos many).2.2 = true → (goneR l into pos many).2.1 = endR l into pos many) := by
  rw [goneR, endR]
  by_cases h1 : into ≠ -1 ∧ blockR l into = false
  · rw [if_pos h1, if_pos (.inl h1)]; simp
  · rw [if_neg h1]
    have hin : into = -1 ∨ hasI l into = true := by
      by_cases h : into = -1
      · exact .inl h
      · right
        cases hbk : blockR l into
        · exact absurd ⟨h, hbk⟩ h1
        · simp only [blockR, Bool.and_eq_true] at hbk; exact hbk.1
    by_cases h2 : many < 0
    · rw [if_pos (.inr (.inl h2)), if_pos (.inr h2)]; simp
    · rw [if_neg (show ¬ ((into ≠ -1 ∧ blockR l into = false) ∨ many < 0) from fun h => h.elim h1 h2)]
      obtain ⟨a, e, g1, g2, _⟩ := rowOfI_facts hb hin
      obtain ⟨hp, hs, hle⟩ := placesR_eq hb hin g1
      have hge := Srt.ge hs
      rw [endS_eq (by omega) (placesR l into) 0 hs]
      have hr := idxI_range pos (placesR l into) 0
      have hi1 : -1 ≤ into := by
        rcases hin with h | h
        · omega
        · have := hasI_iff.1 h; omega
      generalize placesR l into = p at *
      generalize idxI pos p 0 = k at *
      by_cases hc : k < 0 ∨ many ≥ (p.length : Int) - k
      · rw [if_pos (by omega), if_pos (by omega)]; simp
      · rw [if_neg (by omega), if_neg (by omega)]
        have hk : (k + many).toNat < p.length := by omega
        have e1 : (k - ((0 : Nat) : Int) + many).toNat = (k + many).toNat := by omega
        rw [e1]
        simp only [List.getElem?_eq_getElem hk, Option.getD_some]
        have := hge _ (List.getElem_mem hk)
        refine ⟨?_, by simp⟩
        symm
        rw [decide_eq_true_eq]
        omega
theorem holdsI_iff {l : List Nd} {a b : Int} : holdsI l a b = true ↔ 0 ≤ a ∧ b < l.length ∧ a ≤ b ∧ b < a + szI l a.toNat := by
  simp only [holdsI, Bool.and_eq_true, hasI_iff, decide_eq_true_eq]
  constructor
  · rintro ⟨h1, h2, h3, h4⟩; omega
  · rintro ⟨h1, h2, h3, h4⟩; omega
theorem parD_spec (l : List Nd) (b : Nat) : ∀ k, (parD l b k = -1 ∧ ∀ i : Nat, i < k → holdsI l i b = false) ∨ ∃ q : Nat, parD l b k = q ∧ q < k ∧ holdsI l q b = true ∧ ∀ i : Nat, q < i → i < k → holdsI l i b = false
  | 0 => .inl ⟨rfl, fun i h => by omega⟩
  | k + 1 => by
    rw [parD]
    cases hk : holdsI l k b
    · simp only [Bool.false_eq_true, ↓reduceIte]
      rcases parD_spec l b k with ⟨h1, h2⟩ | ⟨q, h1, h2, h3, h4⟩
      · refine .inl ⟨h1, fun i hi => ?_⟩
        by_cases e : i = k
        · rw [e]; exact hk
        · exact h2 i (by omega)
      · refine .inr ⟨q, h1, by omega, h3, fun i hi hk' => ?_⟩
        by_cases e : i = k
        · rw [e]; exact hk
        · exact h4 i hi (by omega)
    · simp only [↓reduceIte]
      exact .inr ⟨k, rfl, by omega, hk, fun i hi hk' => by omega⟩
/-- what stands within one ends within it -/
theorem nest {l : List Nd} (hb : isB l = true) {x q : Nat} (hx : x < l.length) (h1 : x ≤ q) (h2 : (q : Int) < x + szI l x) (hq : q < l.length) : (q : Int) + szI l q ≤ x + szI l x := by
  by_cases e : x = q
  · subst e; omega
  · have hrows : rowsB l 0 l.length = true := by simp only [isB, Bool.and_eq_true] at hb; exact hb.2
    obtain ⟨z1, z2⟩ := szI_bound hb hx
    obtain ⟨z3, _⟩ := rowsB_ends (Nat.le_refl _) hrows (Nat.zero_le x) hx
    have hin := rowsB_inner l (l.length + 1) 0 l.length (by omega) (Nat.le_refl _) hrows x (by omega) hx hx
    rw [← szI_eq hx] at hin
    have := (rowsB_ends (e := x + (szI l x).toNat) (by omega) hin (k := q) (by omega) (by omega)).1
    omega
theorem ups_le (l : List Nd) : ∀ (f : Nat) (p x : Int), x ∈ ups l f p → 0 ≤ x ∧ x ≤ p
  | 0, _, _, h => by simp [ups] at h
  | f + 1, p, x, h => by
    rw [ups] at h
    split at h
    · rcases List.mem_cons.1 h with rfl | h
      · omega
      · have := ups_le l f _ x h
        have := parR_range l p.toNat
        omega
    · simp at h
theorem ups_nodup (l : List Nd) : ∀ (f : Nat) (p : Int), (ups l f p).Nodup
  | 0, _ => by simp [ups]
  | f + 1, p => by
    rw [ups]
    split
    · refine List.nodup_cons.2 ⟨fun h => ?_, ups_nodup l f _⟩
      have := ups_le l f _ _ h
      have := parR_range l p.toNat
      omega
    · simp
theorem ups_mem {l : List Nd} (hb : isB l = true) : ∀ (f : Nat) (p : Int), p < l.length → p < f → ∀ x : Int, x ∈ ups l f p ↔ holdsI l x p = true
  | 0, p, hp, hf, x => by
    simp only [ups, List.not_mem_nil, false_iff]
    rw [holdsI_iff]; omega
  | f + 1, p, hp, hf, x => by
    rw [ups]
    split
    · rename_i h0
      obtain ⟨q, rfl⟩ : ∃ q : Nat, p = q := ⟨p.toNat, by omega⟩
      have hql : q < l.length := by omega
      have hpr := parR_range l q
      simp only [Int.toNat_natCast]
      rw [List.mem_cons, ups_mem hb f (parR l q) (by omega) (by omega) x]
      have hz := szI_bound hb hql
      constructor
      · rintro (rfl | h)
        · rw [holdsI_iff]; simp; omega
        · rw [holdsI_iff] at h
          obtain ⟨h1, h2, h3, h4⟩ := h
          obtain ⟨y, rfl⟩ : ∃ y : Nat, x = y := ⟨x.toNat, by omega⟩
          rcases parD_spec l q q with ⟨g1, _⟩ | ⟨r, g1, g2, g3, _⟩
          · rw [parR, g1] at h3; omega
          · rw [parR, g1] at h2 h3 h4
            simp only [Int.toNat_natCast] at h4
            rw [holdsI_iff] at g3 ⊢
            simp only [Int.toNat_natCast] at g3 ⊢
            have := nest hb (x := y) (q := r) (by omega) (by omega) h4 (by omega)
            omega
      · intro h
        rw [holdsI_iff] at h
        obtain ⟨h1, h2, h3, h4⟩ := h
        obtain ⟨y, rfl⟩ : ∃ y : Nat, x = y := ⟨x.toNat, by omega⟩
        simp only [Int.toNat_natCast] at h4
        by_cases e : y = q
        · left; rw [e]
        · right
          have hyq : holdsI l y q = true := by rw [holdsI_iff]; simp only [Int.toNat_natCast]; omega
          rcases parD_spec l q q with ⟨_, g2⟩ | ⟨r, g1, g2, g3, g4⟩
          · rw [g2 y (by omega)] at hyq; cases hyq
          · have hyr : y ≤ r := by
              by_cases hh : y ≤ r
              · exact hh
              · rw [g4 y (by omega) (by omega)] at hyq; cases hyq
            rw [parR, g1, holdsI_iff]
            simp only [Int.toNat_natCast]
            omega
    · rename_i h0
      simp only [List.not_mem_nil, false_iff]
      rw [holdsI_iff]; omega
theorem bump_get_at (m : Int) (p i : Nat) (out : List Nd) : (bump m p out)[i]? = if i = p then (out[i]?).map (fun x => { x with size := x.size + m }) else out[i]? := by
  by_cases e : i = p
  · subst e
    rw [if_pos rfl, bump]
    cases h : out[i]? with
    | none => simp [h]
    | some x =>
      have := (List.getElem?_eq_some_iff.1 h).1
      simp [this]
  · rw [if_neg e, bump_get e]
theorem bumps_get (m : Int) : ∀ (ps : List Int), (∀ p ∈ ps, 0 ≤ p) → ps.Nodup → ∀ (out : List Nd) (i : Nat),
    (bumps m ps out)[i]? = if (i : Int) ∈ ps then (out[i]?).map (fun x => { x with size := x.size + m }) else out[i]?
  | [], _, _, out, i => by simp [bumps]
  | p :: ps, h0, hn, out, i => by
    obtain ⟨hn1, hn2⟩ := List.nodup_cons.1 hn
    have hp := h0 p (by simp)
    rw [bumps, bumps_get m ps (fun q hq => h0 q (by simp [hq])) hn2, bump_get_at]
    by_cases e : (i : Int) = p
    · have e2 : i = p.toNat := by omega
      rw [if_neg (by rw [e]; exact hn1), if_pos e2, if_pos (by simp [e])]
    · have e2 : i ≠ p.toNat := by omega
      rw [if_neg e2]
      by_cases h2 : (i : Int) ∈ ps
      · rw [if_pos h2, if_pos (by simp [h2])]
      · rw [if_neg h2, if_neg (by simp [h2, e])]
def grewL (l : List Nd) (into more : Int) (n : Nat) : List Nd :=
  (l.take n).mapIdx fun i x => if (i : Int) = into ∨ holdsI l i into = true then { x with size := x.size + more } else x
theorem grewL_succ {l : List Nd} {into more : Int} {n : Nat} (h : n < l.length) :
    grewL l into more (n + 1) = grewL l into more n ++ [if (n : Int) = into ∨ holdsI l n into = true then { l[n] with size := l[n].size + more } else l[n]] := by
  rw [grewL, List.take_succ_eq_append_getElem h, List.mapIdx_append]
  have : (l.take n).length = n := by simp; omega
  simp only [grewL, List.mapIdx_cons, List.mapIdx_nil, this, Nat.zero_add]
theorem grewL_len {l : List Nd} {into more : Int} {n : Nat} : (grewL l into more n).length = (l.take n).length := by rw [grewL, List.length_mapIdx]
theorem app_right {α : Type} {A R : List α} {n i : Nat} (h : A.length = n) (hi : n ≤ i) : (A ++ R)[i]? = R[i - n]? := by
  rw [List.getElem?_append_right (by omega), h]
theorem swapL_eq {l : List Nd} (hb : isB l = true) {x : Ed} {to : Int} (h1 : x.into < x.pos) (h2 : -1 ≤ x.into) (h3 : x.pos ≤ l.length) :
    swapL l x to = grewL l x.into ((x.sub.length : Int) - (to - x.pos)) x.pos.toNat ++ x.sub ++ l.drop to.toNat := by
  refine List.ext_getElem? fun i => ?_
  rw [swapL, bumps_get _ _ (fun p hp => (ups_le l _ _ p hp).1) (ups_nodup l _ _)]
  have hm := ups_mem hb (l.length + 1) x.into (by omega) (by omega) i
  by_cases hi : i < x.pos.toNat
  · have hil : i < l.length := by omega
    rw [List.append_assoc, List.append_assoc, List.getElem?_append_left (by simp; omega), List.getElem?_append_left (by rw [grewL_len]; simp; omega), grewL, List.getElem?_mapIdx]
    have ht : (l.take x.pos.toNat)[i]? = some l[i] := by rw [List.getElem?_take, if_pos hi, List.getElem?_eq_getElem hil]
    rw [ht]
    simp only [Option.map_some]
    have hz := szI_bound hb hil
    have hiff : ((i : Int) = x.into ∨ holdsI l i x.into = true) ↔ holdsI l i x.into = true := by
      refine ⟨fun h => h.elim (fun e => ?_) id, .inr⟩
      rw [← e, holdsI_iff]; simp; omega
    by_cases hh : holdsI l i x.into = true
    · rw [if_pos (hm.2 hh), if_pos (.inr hh)]
    · rw [if_neg (fun h => hh (hm.1 h)), if_neg (fun h => hh (hiff.1 h))]
  · rw [if_neg (fun h => by have := ups_le l _ _ _ h; omega)]
    have e1 : (l.take x.pos.toNat).length = x.pos.toNat := by simp; omega
    have e2 : (grewL l x.into ((x.sub.length : Int) - (to - x.pos)) x.pos.toNat).length = x.pos.toNat := by rw [grewL_len, e1]
    rw [List.append_assoc, List.append_assoc, app_right e1 (by omega), app_right e2 (by omega)]
end Go.Vc
namespace Go.Vc
open Go.Proofs
section
variable {P : Program} {n : Nat} {st : St} {Q : St → Prop} {k : List It}
/-- a row that this function owned is given away; several slots have it -/
theorem Runs.freezes {s : Nat → V} {σ : Store} {todo : List It} (l ds : List Nat) (id off len : Nat) {ob : Ob} {σ' : Store} (h : SubStore σ' σ) (ho : σ id = some ob) (hid : σ' id = none)
    (hs : ∀ d ∈ ds, s d = .own id off len) (hl : off + len ≤ ob.rows.length)
    (hr : Runs P n todo ⟨fun i => if ds.contains i then .sl ob.sz ((ob.rows.drop off).take len) else keepS l s i, σ'⟩ Q) : Runs P n todo ⟨s, σ⟩ Q := by
  refine Runs.weaken ⟨h, fun i => ?_⟩ hr
  show Wk σ σ' (s i) _
  by_cases hi : ds.contains i = true
  · simp only [if_pos hi]
    rw [hs i (by simpa using hi)]
    exact Wk.own h ho hid hl
  · simp only [if_neg hi]
    unfold keepS
    split
    · exact Wk.refl h _
    · exact Wk.undef _
end
set_option maxRecDepth 100000 in
theorem own8_o (l : List Nd) (hl : Sml l) (σ : Store) : Contract Try.prog 49 [encNs l] σ fun r σ' => SubStore σ σ' ∧ OutV σ σ' 28 20 r (l.map encN) := by
  refine Contract.of_runs Try.func49 e49 k49 (by simp [c49]) ?_
  refine Runs.mix 3 ?_
  (refine Runs.of_step Orc.nothing 300 ?_; simp -implicitDefEqProofs only [BB, Int.reduceEq, Int.reduceNe, Int.reduceLT, Int.reduceLE, Int.reduceGT, Int.reduceGE, Nat.reduceEqDiff, Nat.reduceAdd, Nat.reduceMul, Nat.reduceLeDiff, Nat.reduceSub, Nat.reduceLT, Nat.reduceBEq, ↓reduceIte, reduceCtorEq, ← decide_not, okind, vpre, vpure, intBin, intPre, strBin, strPre, popTo, argSlots, fldV, fldAV, subCells, idxVV, idxAAV, idxSV, sliceV, sliceSV, boundV, szIs, storeOp, storeS, setRowV, eff, extV, buildV, splice, eqSV, fitsL, eqCells, eqCell, minmaxV, capV, binBV, nilCheckV, bytesV, V.cells, V.stays, Orc.nothing, c49])
  refine Runs.call rfl rfl rfl (own_o l hl _) ?_
  rintro r σ1 ⟨hsub, hout⟩
  (refine Runs.of_step Orc.nothing 300 ?_; simp -implicitDefEqProofs only [BB, Int.reduceEq, Int.reduceNe, Int.reduceLT, Int.reduceLE, Int.reduceGT, Int.reduceGE, Nat.reduceEqDiff, Nat.reduceAdd, Nat.reduceMul, Nat.reduceLeDiff, Nat.reduceSub, Nat.reduceLT, Nat.reduceBEq, ↓reduceIte, reduceCtorEq, ← decide_not, okind, vpre, vpure, intBin, intPre, strBin, strPre, popTo, argSlots, fldV, fldAV, subCells, idxVV, idxAAV, idxSV, sliceV, sliceSV, boundV, szIs, storeOp, storeS, setRowV, eff, extV, buildV, splice, eqSV, fitsL, eqCells, eqCell, minmaxV, capV, binBV, nilCheckV, bytesV, V.cells, V.stays, Orc.nothing])
  exact ⟨_, _, SubStore.refl _, Wk.refl (SubStore.refl _) _, hsub, hout⟩
def ref1R (l : List Nd) (x : Ed) (to : Int) : List Nd := grewL l x.into ((x.sub.length : Int) - (to - x.pos)) x.pos.toNat ++ x.sub ++ l.drop to.toNat
def refDoR (l : List Nd) (x : Ed) : List Nd × Bool :=
  if isB l = false then ([], false) else
  if x.kind = 2 then (if blockR l x.pos = false ∨ x.into ≠ 0 ∨ x.many ≠ 0 ∨ 0 < x.sub.length then ([], false) else (restyle l x.pos.toNat x.st, isB (restyle l x.pos.toNat x.st)))
  else if x.kind ≠ 1 ∨ endR l x.into x.pos x.many < 0 ∨ isB x.sub = false ∨ x.st ≠ Sty.zero then ([], false)
  else (ref1R l x (endR l x.into x.pos x.many), isB (ref1R l x (endR l x.into x.pos x.many)))
set_option maxRecDepth 100000 in
theorem rdo_c (l : List Nd) (x : Ed) (hl : Hlf l) (hx : Hlf x.sub) : PFun Try.prog 22 [encNs l, encE x] (.tup [encNs (refDoR l x).1, .bool (refDoR l x).2]) := fun σ => by
  have hl1 := hl.1
  refine Contract.of_runs Try.func22 e22 k22 (by simp [c22]) ?_
  refine Runs.mix 11 ?_
  (refine Runs.of_step Orc.nothing 300 ?_; simp -implicitDefEqProofs only [BB, Int.reduceEq, Int.reduceNe, Int.reduceLT, Int.reduceLE, Int.reduceGT, Int.reduceGE, Nat.reduceEqDiff, Nat.reduceAdd, Nat.reduceMul, Nat.reduceLeDiff, Nat.reduceSub, Nat.reduceLT, Nat.reduceBEq, ↓reduceIte, reduceCtorEq, ← decide_not, okind, vpre, vpure, intBin, intPre, strBin, strPre, popTo, argSlots, fldV, fldAV, subCells, idxVV, idxAAV, idxSV, sliceV, sliceSV, boundV, szIs, storeOp, storeS, setRowV, eff, extV, buildV, splice, eqSV, fitsL, eqCells, eqCell, minmaxV, capV, binBV, nilCheckV, bytesV, V.cells, V.stays, Orc.nothing, c22, encE, Ed.cells, encNs_cells, encNs_stays])
  refine effR_new fun id3 σ1 s1 a1 f1 => ?_
  simp -implicitDefEqProofs only [BB, Int.reduceEq, Int.reduceNe, Int.reduceLT, Int.reduceLE, Int.reduceGT, Int.reduceGE, Nat.reduceEqDiff, Nat.reduceAdd, Nat.reduceMul, Nat.reduceLeDiff, Nat.reduceSub, Nat.reduceLT, Nat.reduceBEq, ↓reduceIte, reduceCtorEq, ← decide_not, okind, vpre, vpure, intBin, intPre, strBin, strPre, popTo, argSlots, fldV, fldAV, subCells, idxVV, idxAAV, idxSV, sliceV, sliceSV, boundV, szIs, storeOp, storeS, setRowV, eff, extV, buildV, splice, eqSV, fitsL, eqCells, eqCell, minmaxV, capV, binBV, nilCheckV, bytesV, V.cells, V.stays, a1, encNs_cells, encNs_stays]
  have hnone : refDoR l x = ([], false) → RetV (.tup [.nils, .bool false]) σ1 fun r σ' => r = .tup [encNs (refDoR l x).1, .bool (refDoR l x).2] ∧ σ' = σ := fun h => by
    rw [h]
    exact ⟨_, σ, s1, Wk.tup (by simp only [WkL]; exact ⟨Wk.nils 20, Wk.refl s1 _, trivial⟩), rfl, rfl⟩
  refine Runs.pcall rfl rfl rfl (is_c l hl.sml.fine _) ?_
  cases hb : isB l
  · (refine Runs.of_step Orc.nothing 300 ?_; simp -implicitDefEqProofs only [BB, Int.reduceEq, Int.reduceNe, Int.reduceLT, Int.reduceLE, Int.reduceGT, Int.reduceGE, Nat.reduceEqDiff, Nat.reduceAdd, Nat.reduceMul, Nat.reduceLeDiff, Nat.reduceSub, Nat.reduceLT, Nat.reduceBEq, ↓reduceIte, reduceCtorEq, ← decide_not, okind, vpre, vpure, intBin, intPre, strBin, strPre, popTo, argSlots, fldV, fldAV, subCells, idxVV, idxAAV, idxSV, sliceV, sliceSV, boundV, szIs, storeOp, storeS, setRowV, eff, extV, buildV, splice, eqSV, fitsL, eqCells, eqCell, minmaxV, capV, binBV, nilCheckV, bytesV, V.cells, V.stays, Orc.nothing, a1, encNs_cells, encNs_stays])
    exact hnone (by rw [refDoR, if_pos hb])
  · (refine Runs.of_step Orc.nothing 300 ?_; simp -implicitDefEqProofs only [BB, Int.reduceEq, Int.reduceNe, Int.reduceLT, Int.reduceLE, Int.reduceGT, Int.reduceGE, Nat.reduceEqDiff, Nat.reduceAdd, Nat.reduceMul, Nat.reduceLeDiff, Nat.reduceSub, Nat.reduceLT, Nat.reduceBEq, ↓reduceIte, reduceCtorEq, ← decide_not, okind, vpre, vpure, intBin, intPre, strBin, strPre, popTo, argSlots, fldV, fldAV, subCells, idxVV, idxAAV, idxSV, sliceV, sliceSV, boundV, szIs, storeOp, storeS, setRowV, eff, extV, buildV, splice, eqSV, fitsL, eqCells, eqCell, minmaxV, capV, binBV, nilCheckV, bytesV, V.cells, V.stays, Orc.nothing, a1, encNs_cells, encNs_stays])
    refine And.intro (fun hk => ?_) (fun hk => ?_)
    · have hre : refDoR l x = if blockR l x.pos = false ∨ x.into ≠ 0 ∨ x.many ≠ 0 ∨ 0 < x.sub.length then ([], false) else (restyle l x.pos.toNat x.st, isB (restyle l x.pos.toNat x.st)) := by
        rw [refDoR, if_neg (by rw [hb]; simp), if_pos hk]
      refine Runs.pcall rfl rfl rfl (block8_c l x.pos _) ?_
      cases hbk : blockR l x.pos
      · (refine Runs.of_step Orc.nothing 300 ?_; simp -implicitDefEqProofs only [BB, Int.reduceEq, Int.reduceNe, Int.reduceLT, Int.reduceLE, Int.reduceGT, Int.reduceGE, Nat.reduceEqDiff, Nat.reduceAdd, Nat.reduceMul, Nat.reduceLeDiff, Nat.reduceSub, Nat.reduceLT, Nat.reduceBEq, ↓reduceIte, reduceCtorEq, ← decide_not, okind, vpre, vpure, intBin, intPre, strBin, strPre, popTo, argSlots, fldV, fldAV, subCells, idxVV, idxAAV, idxSV, sliceV, sliceSV, boundV, szIs, storeOp, storeS, setRowV, eff, extV, buildV, splice, eqSV, fitsL, eqCells, eqCell, minmaxV, capV, binBV, nilCheckV, bytesV, V.cells, V.stays, Orc.nothing, hbk, a1, encNs_cells, encNs_stays])
        exact hnone (by rw [hre, if_pos (.inl hbk)])
      · (refine Runs.of_step Orc.nothing 300 ?_; simp -implicitDefEqProofs only [BB, Int.reduceEq, Int.reduceNe, Int.reduceLT, Int.reduceLE, Int.reduceGT, Int.reduceGE, Nat.reduceEqDiff, Nat.reduceAdd, Nat.reduceMul, Nat.reduceLeDiff, Nat.reduceSub, Nat.reduceLT, Nat.reduceBEq, ↓reduceIte, reduceCtorEq, ← decide_not, okind, vpre, vpure, intBin, intPre, strBin, strPre, popTo, argSlots, fldV, fldAV, subCells, idxVV, idxAAV, idxSV, sliceV, sliceSV, boundV, szIs, storeOp, storeS, setRowV, eff, extV, buildV, splice, eqSV, fitsL, eqCells, eqCell, minmaxV, capV, binBV, nilCheckV, bytesV, V.cells, V.stays, Orc.nothing, hbk, a1, encNs_cells, encNs_stays, lenV_encNs])
        obtain ⟨hp0, hlt, _⟩ := blockR_lt hbk
        refine And.intro (fun c1 => And.intro (fun c2 => And.intro (fun c3 => ?_) (fun c3 => ?_)) (fun c2 => ?_)) (fun c1 => ?_)
        · exact hnone (by rw [hre, if_pos (.inr (.inr (.inr (by omega))))])
        · have hre2 : refDoR l x = (restyle l x.pos.toNat x.st, isB (restyle l x.pos.toNat x.st)) := by
            rw [hre, if_neg]
            rintro (h | h | h | h)
            · rw [hbk] at h; cases h
            · omega
            · omega
            · omega
          rw [hre2]
          refine Runs.call rfl rfl rfl (own8_o l hl.sml _) ?_
          rintro r σ2 ⟨hsub, hout⟩
          simp only at hsub hout
          have a1' := hsub _ _ a1
          rcases hout with ⟨rfl, hr0⟩ | ⟨id, rfl, ho, hk'⟩
          · have : l = [] := by cases l with | nil => rfl | cons a b => simp at hr0
            subst this
            simp at hlt
          · rw [List.length_map]
            have hrow : (l.map encN)[x.pos.toNat]? = some (.agg (Nd.cells l[x.pos.toNat])) := by simp [hlt, encN]
            have hc : 0 ≤ x.pos ∧ x.pos < (l.length : Int) := by omega
            have hid1 : id3 ≠ id := ne_new a1 hk'
            have hre3 : (restyle l x.pos.toNat x.st).map encN = (l.map encN).set x.pos.toNat (encN { l[x.pos.toNat] with st := x.st }) := by
              rw [restyle]
              simp only [List.getElem?_eq_getElem hlt]
              rw [List.map_set]
            generalize l[x.pos.toNat] = y at *
            simp only [encN, Nd.cells] at hre3
            (refine Runs.of_step Orc.nothing 300 ?_; simp -implicitDefEqProofs only [BB, Int.reduceEq, Int.reduceNe, Int.reduceLT, Int.reduceLE, Int.reduceGT, Int.reduceGE, Nat.reduceEqDiff, Nat.reduceAdd, Nat.reduceMul, Nat.reduceLeDiff, Nat.reduceSub, Nat.reduceLT, Nat.reduceBEq, ↓reduceIte, reduceCtorEq, ← decide_not, okind, vpre, vpure, intBin, intPre, strBin, strPre, popTo, argSlots, fldV, fldAV, subCells, idxVV, idxAAV, idxSV, sliceV, sliceSV, boundV, szIs, storeOp, storeS, setRowV, eff, extV, buildV, splice, eqSV, fitsL, eqCells, eqCell, minmaxV, capV, binBV, nilCheckV, bytesV, V.cells, V.stays, Orc.nothing, a1', ho, hc, hrow, Nd.cells, encNs_cells, encNs_stays])
            rw [← hre3]
            have hn : l.length = ((restyle l x.pos.toNat x.st).map encN).length := by rw [List.length_map, restyle_length]
            have hs3 : SubStore σ (upd σ2 id ⟨28, 20, (restyle l x.pos.toNat x.st).map encN⟩) := (s1.trans hsub).updK (s1.none hk')
            have hov := OutV.new (K := σ) (e := 28) (sz := 20) hn (upd_same (σ := σ2) (id := id)) (s1.none hk')
            have hv := hov.wk (SubStore.refl σ) hs3
            have hv0 := hov.wk (nost_sub σ) (nost_sub _)
            refine Runs.pcall rfl rfl rfl (PFun.borrow (args' := [encNs (restyle l x.pos.toNat x.st)]) (by simp only [List.map_cons, List.map_nil, List.append_nil, WkL]; exact ⟨hv0, trivial⟩) (is_c _ (restyle_sml hl.sml).fine) rfl) ?_
            (refine Runs.of_step Orc.nothing 300 ?_; simp -implicitDefEqProofs only [BB, Int.reduceEq, Int.reduceNe, Int.reduceLT, Int.reduceLE, Int.reduceGT, Int.reduceGE, Nat.reduceEqDiff, Nat.reduceAdd, Nat.reduceMul, Nat.reduceLeDiff, Nat.reduceSub, Nat.reduceLT, Nat.reduceBEq, ↓reduceIte, reduceCtorEq, ← decide_not, okind, vpre, vpure, intBin, intPre, strBin, strPre, popTo, argSlots, fldV, fldAV, subCells, idxVV, idxAAV, idxSV, sliceV, sliceSV, boundV, szIs, storeOp, storeS, setRowV, eff, extV, buildV, splice, eqSV, fitsL, eqCells, eqCell, minmaxV, capV, binBV, nilCheckV, bytesV, V.cells, V.stays, Orc.nothing])
            exact ⟨_, σ, hs3, Wk.tup (by simp only [WkL]; exact ⟨hv, Wk.refl hs3 _, trivial⟩), rfl, rfl⟩
        · exact hnone (by rw [hre, if_pos (.inr (.inr (.inl (by omega))))])
        · exact hnone (by rw [hre, if_pos (.inr (.inl (by omega)))])
    · have hre : refDoR l x = if x.kind ≠ 1 ∨ endR l x.into x.pos x.many < 0 ∨ isB x.sub = false ∨ x.st ≠ Sty.zero then ([], false)
          else (ref1R l x (endR l x.into x.pos x.many), isB (ref1R l x (endR l x.into x.pos x.many))) := by
        rw [refDoR, if_neg (by rw [hb]; simp), if_neg hk]
      refine And.intro (fun hk1 => ?_) (fun hk1 => hnone (by rw [hre, if_pos (.inl hk1)]))
      refine Runs.pcall rfl rfl rfl (end_c l (by omega) hb x _) ?_
      by_cases h1 : endR l x.into x.pos x.many < 0
      · (refine Runs.of_step Orc.nothing 300 ?_; simp -implicitDefEqProofs only [BB, Int.reduceEq, Int.reduceNe, Int.reduceLT, Int.reduceLE, Int.reduceGT, Int.reduceGE, Nat.reduceEqDiff, Nat.reduceAdd, Nat.reduceMul, Nat.reduceLeDiff, Nat.reduceSub, Nat.reduceLT, Nat.reduceBEq, ↓reduceIte, reduceCtorEq, ← decide_not, okind, vpre, vpure, intBin, intPre, strBin, strPre, popTo, argSlots, fldV, fldAV, subCells, idxVV, idxAAV, idxSV, sliceV, sliceSV, boundV, szIs, storeOp, storeS, setRowV, eff, extV, buildV, splice, eqSV, fitsL, eqCells, eqCell, minmaxV, capV, binBV, nilCheckV, bytesV, V.cells, V.stays, Orc.nothing, h1, a1, encNs_cells, encNs_stays])
        exact hnone (by rw [hre, if_pos (.inr (.inl h1))])
      have hgo := gone_end hb x.into x.pos x.many
      have hok : (goneR l x.into x.pos x.many).2.2 = true := by rw [hgo.1, decide_eq_true_eq]; omega
      have hto := hgo.2 hok
      rcases hg : goneR l x.into x.pos x.many with ⟨fr, to, ok⟩
      rw [hg] at hok hto
      simp only at hok hto
      subst hok
      obtain ⟨rfl, g1, g2, g3, g4, g5, g6, _⟩ := goneR_facts hb hg
      rw [← hto] at h1 hre ⊢
      (refine Runs.of_step Orc.nothing 300 ?_; simp -implicitDefEqProofs only [BB, Int.reduceEq, Int.reduceNe, Int.reduceLT, Int.reduceLE, Int.reduceGT, Int.reduceGE, Nat.reduceEqDiff, Nat.reduceAdd, Nat.reduceMul, Nat.reduceLeDiff, Nat.reduceSub, Nat.reduceLT, Nat.reduceBEq, ↓reduceIte, reduceCtorEq, ← decide_not, okind, vpre, vpure, intBin, intPre, strBin, strPre, popTo, argSlots, fldV, fldAV, subCells, idxVV, idxAAV, idxSV, sliceV, sliceSV, boundV, szIs, storeOp, storeS, setRowV, eff, extV, buildV, splice, eqSV, fitsL, eqCells, eqCell, minmaxV, capV, binBV, nilCheckV, bytesV, V.cells, V.stays, Orc.nothing, h1, a1, encNs_cells, encNs_stays])
      refine Runs.pcall rfl rfl rfl (is_c x.sub hx.sml.fine _) ?_
      cases hbs : isB x.sub
      · (refine Runs.of_step Orc.nothing 300 ?_; simp -implicitDefEqProofs only [BB, Int.reduceEq, Int.reduceNe, Int.reduceLT, Int.reduceLE, Int.reduceGT, Int.reduceGE, Nat.reduceEqDiff, Nat.reduceAdd, Nat.reduceMul, Nat.reduceLeDiff, Nat.reduceSub, Nat.reduceLT, Nat.reduceBEq, ↓reduceIte, reduceCtorEq, ← decide_not, okind, vpre, vpure, intBin, intPre, strBin, strPre, popTo, argSlots, fldV, fldAV, subCells, idxVV, idxAAV, idxSV, sliceV, sliceSV, boundV, szIs, storeOp, storeS, setRowV, eff, extV, buildV, splice, eqSV, fitsL, eqCells, eqCell, minmaxV, capV, binBV, nilCheckV, bytesV, V.cells, V.stays, Orc.nothing, a1, encNs_cells, encNs_stays])
        exact hnone (by rw [hre, if_pos (.inr (.inr (.inl hbs)))])
      (refine Runs.of_step Orc.nothing 300 ?_; simp -implicitDefEqProofs only [BB, Int.reduceEq, Int.reduceNe, Int.reduceLT, Int.reduceLE, Int.reduceGT, Int.reduceGE, Nat.reduceEqDiff, Nat.reduceAdd, Nat.reduceMul, Nat.reduceLeDiff, Nat.reduceSub, Nat.reduceLT, Nat.reduceBEq, ↓reduceIte, reduceCtorEq, ← decide_not, okind, vpre, vpure, intBin, intPre, strBin, strPre, popTo, argSlots, fldV, fldAV, subCells, idxVV, idxAAV, idxSV, sliceV, sliceSV, boundV, szIs, storeOp, storeS, setRowV, eff, extV, buildV, splice, eqSV, fitsL, eqCells, eqCell, minmaxV, capV, binBV, nilCheckV, bytesV, V.cells, V.stays, Orc.nothing, a1, encNs_cells, encNs_stays, isZero_eq])
      refine And.intro (fun hz => hnone (by rw [hre, if_pos (.inr (.inr (.inr hz)))])) (fun hz => ?_)
      have hre2 : refDoR l x = (ref1R l x to, isB (ref1R l x to)) := by
        rw [hre, if_neg]
        rintro (h | h | h | h)
        · exact h hk1
        · exact h1 h
        · rw [hbs] at h; cases h
        · exact hz h
      rw [hre2]
      have hx1 := hx.1
      refine Runs.loop (fun m st => ∃ i : Nat, (i : Int) ≤ x.pos ∧ m = x.pos.toNat - i ∧ SubStore σ1 st.σ ∧ OutV σ1 st.σ 28 20 (st.s 8) ((grewL l x.into ((x.sub.length : Int) - (to - x.pos)) i).map encN) ∧
        st.s 0 = encNs l ∧ st.s 3 = .ptr id3 0 0 ∧ st.s 7 = vI to ∧ st.s 9 = vI i) x.pos.toNat ?_ ?_
      · exact ⟨0, by omega, by omega, SubStore.refl _, .inl ⟨rfl, rfl⟩, rfl, rfl, rfl, rfl⟩
      · rintro m ⟨s, σ'⟩ ⟨i, hi, rfl, hsub, hout, h0, h3, h7, h9⟩
        simp only at hsub hout h0 h3 h7 h9
        have a1' := hsub _ _ a1
        refine Runs.mix 11 ?_
        (refine Runs.of_step Orc.nothing 300 ?_; simp -implicitDefEqProofs only [BB, Int.reduceEq, Int.reduceNe, Int.reduceLT, Int.reduceLE, Int.reduceGT, Int.reduceGE, Nat.reduceEqDiff, Nat.reduceAdd, Nat.reduceMul, Nat.reduceLeDiff, Nat.reduceSub, Nat.reduceLT, Nat.reduceBEq, ↓reduceIte, reduceCtorEq, ← decide_not, okind, vpre, vpure, intBin, intPre, strBin, strPre, popTo, argSlots, fldV, fldAV, subCells, idxVV, idxAAV, idxSV, sliceV, sliceSV, boundV, szIs, storeOp, storeS, setRowV, eff, extV, buildV, splice, eqSV, fitsL, eqCells, eqCell, minmaxV, capV, binBV, nilCheckV, bytesV, V.cells, V.stays, Orc.nothing, h0, h3, h7, h9, a1', encNs_cells, encNs_stays])
        refine And.intro (fun hlt => ?_) (fun hge => ?_)
        · have hil : i < l.length := by omega
          simp -implicitDefEqProofs only [BB, Int.reduceEq, Int.reduceNe, Int.reduceLT, Int.reduceLE, Int.reduceGT, Int.reduceGE, Nat.reduceEqDiff, Nat.reduceAdd, Nat.reduceMul, Nat.reduceLeDiff, Nat.reduceSub, Nat.reduceLT, Nat.reduceBEq, ↓reduceIte, reduceCtorEq, ← decide_not, okind, vpre, vpure, intBin, intPre, strBin, strPre, popTo, argSlots, fldV, fldAV, subCells, idxVV, idxAAV, idxSV, sliceV, sliceSV, boundV, szIs, storeOp, storeS, setRowV, eff, extV, buildV, splice, eqSV, fitsL, eqCells, eqCell, minmaxV, capV, binBV, nilCheckV, bytesV, V.cells, V.stays, idxAV_encNs hil, Nd.cells, h0, h3, h7, h9, a1', encNs_cells, encNs_stays]
          refine effR_new fun id10 σ2 s2 a2 f2 => ?_
          have hx := l[i].words.length
          have hsz := szI_bound hb hil
          have hse := szI_eq hil
          have hgs := grewL_succ (into := x.into) (more := (x.sub.length : Int) - (to - x.pos)) hil
          have n10 := ne_new a1' f2
          have a1'' := s2 _ _ a1'
          have hss : SubStore σ1 (upd σ2 id10 ⟨28, 20, [encN l[i]]⟩) := (hsub.trans s2).updK (hsub.none f2)
          have hlen : (grewL l x.into ((x.sub.length : Int) - (to - x.pos)) i).length ≤ 5000 := by rw [grewL_len]; simp; omega
          have eN : (grewL l x.into ((x.sub.length : Int) - (to - x.pos)) i).length = i := by rw [grewL_len]; simp; omega
          generalize hG : grewL l x.into ((x.sub.length : Int) - (to - x.pos)) i = G at *
          have e1 : l[i].size + (x.sub.length : Int) - (to - x.pos) = l[i].size + ((x.sub.length : Int) - (to - x.pos)) := by omega
          have hb2 : (G.length + 1) * 177 ≤ 140737488355328 := by omega
          by_cases c1 : (i : Int) = x.into
          · simp -implicitDefEqProofs only [BB, Int.reduceEq, Int.reduceNe, Int.reduceLT, Int.reduceLE, Int.reduceGT, Int.reduceGE, Nat.reduceEqDiff, Nat.reduceAdd, Nat.reduceMul, Nat.reduceLeDiff, Nat.reduceSub, Nat.reduceLT, Nat.reduceBEq, ↓reduceIte, reduceCtorEq, ← decide_not, okind, vpre, vpure, intBin, intPre, strBin, strPre, popTo, argSlots, fldV, fldAV, subCells, idxVV, idxAAV, idxSV, sliceV, sliceSV, boundV, szIs, storeOp, storeS, setRowV, eff, extV, buildV, splice, eqSV, fitsL, eqCells, eqCell, minmaxV, capV, binBV, nilCheckV, bytesV, c1, h0, h3, h7, h9, a2, a1'', upd_ne n10, Nd.cells, encNs_cells, encNs_stays, encI_cells, encI_stays, lenV_encNs, V.cells_agg, V.cells_int, V.cells_nils, V.cells_own, V.cells_sl, V.cells_str, V.cells_bool, V.cells_fn, V.cells_ptr, V.cells_rp, V.stays_agg, V.stays_int, V.stays_nils, V.stays_own, V.stays_sl, V.stays_str, V.stays_bool, V.stays_fn, V.stays_ptr, V.stays_rp]
            refine ⟨inR_i64 (by omega) (by omega), inR_i64 (by omega) (by omega), inR_i64 (by omega) (by omega), ?_⟩
            refine effR_new fun id11 σ3 s3 a3 f3 => ?_
            have hs3 := ((hsub.trans s2).updK (hsub.none f2)).trans s3
            obtain ⟨idA, hd, hdel⟩ := hout.dst ((s2.updK f2).trans s3)
            simp -implicitDefEqProofs only [BB, Int.reduceEq, Int.reduceNe, Int.reduceLT, Int.reduceLE, Int.reduceGT, Int.reduceGE, Nat.reduceEqDiff, Nat.reduceAdd, Nat.reduceMul, Nat.reduceLeDiff, Nat.reduceSub, Nat.reduceLT, Nat.reduceBEq, ↓reduceIte, reduceCtorEq, ← decide_not, okind, vpre, vpure, intBin, intPre, strBin, strPre, popTo, argSlots, fldV, fldAV, subCells, idxVV, idxAAV, idxSV, sliceV, sliceSV, boundV, szIs, storeOp, storeS, setRowV, eff, extV, buildV, splice, eqSV, fitsL, eqCells, eqCell, minmaxV, capV, binBV, nilCheckV, bytesV, V.cells, V.stays, hd, srcOne a3, List.length_map, hb2, h0, h3, h7, h9]
            refine effR_put fun id12 σ4 s4 a4 f4 => ?_
            simp -implicitDefEqProofs only [BB, Int.reduceEq, Int.reduceNe, Int.reduceLT, Int.reduceLE, Int.reduceGT, Int.reduceGE, Nat.reduceEqDiff, Nat.reduceAdd, Nat.reduceMul, Nat.reduceLeDiff, Nat.reduceSub, Nat.reduceLT, Nat.reduceBEq, ↓reduceIte, reduceCtorEq, ← decide_not, okind, vpre, vpure, intBin, intPre, strBin, strPre, popTo, argSlots, fldV, fldAV, subCells, idxVV, idxAAV, idxSV, sliceV, sliceSV, boundV, szIs, storeOp, storeS, setRowV, eff, extV, buildV, splice, eqSV, fitsL, eqCells, eqCell, minmaxV, capV, binBV, nilCheckV, bytesV, V.cells, V.stays, h0, h3, h7, h9]
            refine ⟨inR_i64 (by omega) (by omega), _, ?_, i + 1, by omega, rfl, (hdel σ1 (SubStore.refl _) σ3 hs3).trans s4, ?_, ?_⟩
            · omega
            · rw [hgs, if_pos (.inl c1)]
              exact OutV.new (by simp [eN]) (a4.trans (by simp [encN, Nd.cells, e1])) (hs3.none f4)
            · simp
          · simp -implicitDefEqProofs only [BB, Int.reduceEq, Int.reduceNe, Int.reduceLT, Int.reduceLE, Int.reduceGT, Int.reduceGE, Nat.reduceEqDiff, Nat.reduceAdd, Nat.reduceMul, Nat.reduceLeDiff, Nat.reduceSub, Nat.reduceLT, Nat.reduceBEq, ↓reduceIte, reduceCtorEq, ← decide_not, okind, vpre, vpure, intBin, intPre, strBin, strPre, popTo, argSlots, fldV, fldAV, subCells, idxVV, idxAAV, idxSV, sliceV, sliceSV, boundV, szIs, storeOp, storeS, setRowV, eff, extV, buildV, splice, eqSV, fitsL, eqCells, eqCell, minmaxV, capV, binBV, nilCheckV, bytesV, c1, h0, h3, h7, h9, a2, a1'', upd_ne n10, Nd.cells, encNs_cells, encNs_stays, encI_cells, encI_stays, lenV_encNs, V.cells_agg, V.cells_int, V.cells_nils, V.cells_own, V.cells_sl, V.cells_str, V.cells_bool, V.cells_fn, V.cells_ptr, V.cells_rp, V.stays_agg, V.stays_int, V.stays_nils, V.stays_own, V.stays_sl, V.stays_str, V.stays_bool, V.stays_fn, V.stays_ptr, V.stays_rp]
            refine Runs.pcall rfl rfl rfl (holds_c l (by omega) i x.into _) ?_
            cases hh : holdsI l i x.into
            · (refine Runs.of_step Orc.nothing 300 ?_; simp -implicitDefEqProofs only [BB, Int.reduceEq, Int.reduceNe, Int.reduceLT, Int.reduceLE, Int.reduceGT, Int.reduceGE, Nat.reduceEqDiff, Nat.reduceAdd, Nat.reduceMul, Nat.reduceLeDiff, Nat.reduceSub, Nat.reduceLT, Nat.reduceBEq, ↓reduceIte, reduceCtorEq, ← decide_not, okind, vpre, vpure, intBin, intPre, strBin, strPre, popTo, argSlots, fldV, fldAV, subCells, idxVV, idxAAV, idxSV, sliceV, sliceSV, boundV, szIs, storeOp, storeS, setRowV, eff, extV, buildV, splice, eqSV, fitsL, eqCells, eqCell, minmaxV, capV, binBV, nilCheckV, bytesV, Orc.nothing, h0, h3, h7, h9, a2, a1'', upd_ne n10, Nd.cells, encNs_cells, encNs_stays, encI_cells, encI_stays, lenV_encNs, V.cells_agg, V.cells_int, V.cells_nils, V.cells_own, V.cells_sl, V.cells_str, V.cells_bool, V.cells_fn, V.cells_ptr, V.cells_rp, V.stays_agg, V.stays_int, V.stays_nils, V.stays_own, V.stays_sl, V.stays_str, V.stays_bool, V.stays_fn, V.stays_ptr, V.stays_rp])
              refine effR_new fun id11 σ3 s3 a3 f3 => ?_
              have hs3 := ((hsub.trans s2).updK (hsub.none f2)).trans s3
              obtain ⟨idA, hd, hdel⟩ := hout.dst ((s2.updK f2).trans s3)
              simp -implicitDefEqProofs only [BB, Int.reduceEq, Int.reduceNe, Int.reduceLT, Int.reduceLE, Int.reduceGT, Int.reduceGE, Nat.reduceEqDiff, Nat.reduceAdd, Nat.reduceMul, Nat.reduceLeDiff, Nat.reduceSub, Nat.reduceLT, Nat.reduceBEq, ↓reduceIte, reduceCtorEq, ← decide_not, okind, vpre, vpure, intBin, intPre, strBin, strPre, popTo, argSlots, fldV, fldAV, subCells, idxVV, idxAAV, idxSV, sliceV, sliceSV, boundV, szIs, storeOp, storeS, setRowV, eff, extV, buildV, splice, eqSV, fitsL, eqCells, eqCell, minmaxV, capV, binBV, nilCheckV, bytesV, V.cells, V.stays, hd, srcOne a3, List.length_map, hb2, h0, h3, h7, h9]
              refine effR_put fun id12 σ4 s4 a4 f4 => ?_
              simp -implicitDefEqProofs only [BB, Int.reduceEq, Int.reduceNe, Int.reduceLT, Int.reduceLE, Int.reduceGT, Int.reduceGE, Nat.reduceEqDiff, Nat.reduceAdd, Nat.reduceMul, Nat.reduceLeDiff, Nat.reduceSub, Nat.reduceLT, Nat.reduceBEq, ↓reduceIte, reduceCtorEq, ← decide_not, okind, vpre, vpure, intBin, intPre, strBin, strPre, popTo, argSlots, fldV, fldAV, subCells, idxVV, idxAAV, idxSV, sliceV, sliceSV, boundV, szIs, storeOp, storeS, setRowV, eff, extV, buildV, splice, eqSV, fitsL, eqCells, eqCell, minmaxV, capV, binBV, nilCheckV, bytesV, V.cells, V.stays, h0, h3, h7, h9]
              refine ⟨inR_i64 (by omega) (by omega), _, ?_, i + 1, by omega, rfl, (hdel σ1 (SubStore.refl _) σ3 hs3).trans s4, ?_, ?_⟩
              · omega
              · rw [hgs, if_neg (by rw [hh]; simp [c1])]
                exact OutV.new (by simp [eN]) (a4.trans (by simp [encN, Nd.cells])) (hs3.none f4)
              · simp
            · (refine Runs.of_step Orc.nothing 300 ?_; simp -implicitDefEqProofs only [BB, Int.reduceEq, Int.reduceNe, Int.reduceLT, Int.reduceLE, Int.reduceGT, Int.reduceGE, Nat.reduceEqDiff, Nat.reduceAdd, Nat.reduceMul, Nat.reduceLeDiff, Nat.reduceSub, Nat.reduceLT, Nat.reduceBEq, ↓reduceIte, reduceCtorEq, ← decide_not, okind, vpre, vpure, intBin, intPre, strBin, strPre, popTo, argSlots, fldV, fldAV, subCells, idxVV, idxAAV, idxSV, sliceV, sliceSV, boundV, szIs, storeOp, storeS, setRowV, eff, extV, buildV, splice, eqSV, fitsL, eqCells, eqCell, minmaxV, capV, binBV, nilCheckV, bytesV, Orc.nothing, h0, h3, h7, h9, a2, a1'', upd_ne n10, Nd.cells, encNs_cells, encNs_stays, encI_cells, encI_stays, lenV_encNs, V.cells_agg, V.cells_int, V.cells_nils, V.cells_own, V.cells_sl, V.cells_str, V.cells_bool, V.cells_fn, V.cells_ptr, V.cells_rp, V.stays_agg, V.stays_int, V.stays_nils, V.stays_own, V.stays_sl, V.stays_str, V.stays_bool, V.stays_fn, V.stays_ptr, V.stays_rp])
              refine ⟨inR_i64 (by omega) (by omega), inR_i64 (by omega) (by omega), inR_i64 (by omega) (by omega), ?_⟩
              refine effR_new fun id11 σ3 s3 a3 f3 => ?_
              have hs3 := ((hsub.trans s2).updK (hsub.none f2)).trans s3
              obtain ⟨idA, hd, hdel⟩ := hout.dst ((s2.updK f2).trans s3)
              simp -implicitDefEqProofs only [BB, Int.reduceEq, Int.reduceNe, Int.reduceLT, Int.reduceLE, Int.reduceGT, Int.reduceGE, Nat.reduceEqDiff, Nat.reduceAdd, Nat.reduceMul, Nat.reduceLeDiff, Nat.reduceSub, Nat.reduceLT, Nat.reduceBEq, ↓reduceIte, reduceCtorEq, ← decide_not, okind, vpre, vpure, intBin, intPre, strBin, strPre, popTo, argSlots, fldV, fldAV, subCells, idxVV, idxAAV, idxSV, sliceV, sliceSV, boundV, szIs, storeOp, storeS, setRowV, eff, extV, buildV, splice, eqSV, fitsL, eqCells, eqCell, minmaxV, capV, binBV, nilCheckV, bytesV, V.cells, V.stays, hd, srcOne a3, List.length_map, hb2, h0, h3, h7, h9]
              refine effR_put fun id12 σ4 s4 a4 f4 => ?_
              simp -implicitDefEqProofs only [BB, Int.reduceEq, Int.reduceNe, Int.reduceLT, Int.reduceLE, Int.reduceGT, Int.reduceGE, Nat.reduceEqDiff, Nat.reduceAdd, Nat.reduceMul, Nat.reduceLeDiff, Nat.reduceSub, Nat.reduceLT, Nat.reduceBEq, ↓reduceIte, reduceCtorEq, ← decide_not, okind, vpre, vpure, intBin, intPre, strBin, strPre, popTo, argSlots, fldV, fldAV, subCells, idxVV, idxAAV, idxSV, sliceV, sliceSV, boundV, szIs, storeOp, storeS, setRowV, eff, extV, buildV, splice, eqSV, fitsL, eqCells, eqCell, minmaxV, capV, binBV, nilCheckV, bytesV, V.cells, V.stays, h0, h3, h7, h9]
              refine ⟨inR_i64 (by omega) (by omega), _, ?_, i + 1, by omega, rfl, (hdel σ1 (SubStore.refl _) σ3 hs3).trans s4, ?_, ?_⟩
              · omega
              · rw [hgs, if_pos (.inr hh)]
                exact OutV.new (by simp [eN]) (a4.trans (by simp [encN, Nd.cells, e1])) (hs3.none f4)
              · simp
        · have hie : i = x.pos.toNat := by omega
          subst hie
          have hR : ref1R l x to = grewL l x.into ((x.sub.length : Int) - (to - x.pos)) x.pos.toNat ++ x.sub ++ l.drop to.toNat := rfl
          have hlen : (grewL l x.into ((x.sub.length : Int) - (to - x.pos)) x.pos.toNat).length ≤ 5000 := by rw [grewL_len]; simp; omega
          have eG : (grewL l x.into ((x.sub.length : Int) - (to - x.pos)) x.pos.toNat).length = x.pos.toNat := by rw [grewL_len]; simp; omega
          have hRw : ∀ y ∈ ref1R l x to, y.words.length ≤ 1000000000 := by
            rw [ref1R, ← swapL_eq hb (by omega) g4 (by omega)]
            exact (swapL_sml hl hx g2 (by omega)).2
          generalize hG : grewL l x.into ((x.sub.length : Int) - (to - x.pos)) x.pos.toNat = G at *
          have hsrc : ∀ (σ : Store) (l : List Nd), srcRows σ 20 (encNs l) = some (l.map encN) := fun σ l => by simp [encNs, srcRows]
          have hsl := fun σ => sliceV_from (σ := σ) (l := l) (s := to) (by omega) g3
          have hb1 : (G.length + x.sub.length) * 177 ≤ 140737488355328 := by omega
          have hb2 : (G.length + x.sub.length + (l.drop to.toNat).length) * 177 ≤ 140737488355328 := by simp; omega
          obtain ⟨idA, hd, hdel⟩ := hout.dst (SubStore.refl _)
          simp -implicitDefEqProofs only [BB, Int.reduceEq, Int.reduceNe, Int.reduceLT, Int.reduceLE, Int.reduceGT, Int.reduceGE, Nat.reduceEqDiff, Nat.reduceAdd, Nat.reduceMul, Nat.reduceLeDiff, Nat.reduceSub, Nat.reduceLT, Nat.reduceBEq, ↓reduceIte, reduceCtorEq, ← decide_not, okind, vpre, vpure, intBin, intPre, strBin, strPre, popTo, argSlots, fldV, fldAV, subCells, idxVV, idxAAV, idxSV, sliceV, sliceSV, boundV, szIs, storeOp, storeS, setRowV, eff, extV, buildV, splice, eqSV, fitsL, eqCells, eqCell, minmaxV, capV, binBV, nilCheckV, bytesV, V.cells, V.stays, hd, hsrc, List.length_map, hb1, h0, h3, h7, h9]
          refine effD_put fun id4 σ4 s4 a4 f4 => ?_
          have hs4 := (hdel σ1 (SubStore.refl _) σ' hsub).trans s4
          have hn2 : G.length + x.sub.length = (G.map encN ++ x.sub.map encN).length := by simp
          obtain ⟨idB, hd2, hdel2⟩ := (OutV.new (K := σ1) (e := 28) (sz := 20) hn2 a4 (hsub.none f4)).dst (SubStore.refl _)
          simp -implicitDefEqProofs only [BB, Int.reduceEq, Int.reduceNe, Int.reduceLT, Int.reduceLE, Int.reduceGT, Int.reduceGE, Nat.reduceEqDiff, Nat.reduceAdd, Nat.reduceMul, Nat.reduceLeDiff, Nat.reduceSub, Nat.reduceLT, Nat.reduceBEq, ↓reduceIte, reduceCtorEq, ← decide_not, okind, vpre, vpure, intBin, intPre, strBin, strPre, popTo, argSlots, fldV, fldAV, subCells, idxVV, idxAAV, idxSV, sliceSV, boundV, szIs, storeOp, storeS, setRowV, eff, extV, buildV, splice, eqSV, fitsL, eqCells, eqCell, minmaxV, capV, binBV, nilCheckV, bytesV, V.cells, V.stays, hd2, hsrc, hsl, List.length_map, List.length_append, hb2, h0, h3, h7, h9]
          refine effD_put fun id5 σ5 s5 a5 f5 => ?_
          have hs5 := (hdel2 σ1 (SubStore.refl _) σ4 hs4).trans s5
          simp -implicitDefEqProofs only [BB, Int.reduceEq, Int.reduceNe, Int.reduceLT, Int.reduceLE, Int.reduceGT, Int.reduceGE, Nat.reduceEqDiff, Nat.reduceAdd, Nat.reduceMul, Nat.reduceLeDiff, Nat.reduceSub, Nat.reduceLT, Nat.reduceBEq, ↓reduceIte, reduceCtorEq, ← decide_not, okind, vpre, vpure, intBin, intPre, strBin, strPre, popTo, argSlots, fldV, fldAV, subCells, idxVV, idxAAV, idxSV, sliceV, sliceSV, boundV, szIs, storeOp, storeS, setRowV, eff, extV, buildV, splice, eqSV, fitsL, eqCells, eqCell, minmaxV, capV, binBV, nilCheckV, bytesV, V.cells, V.stays, h0, h3, h7, h9]
          have hrows : G.map encN ++ x.sub.map encN ++ (l.drop to.toNat).map encN = (ref1R l x to).map encN := by rw [hR]; simp
          have hRl : G.length + x.sub.length + (l.drop to.toNat).length = (ref1R l x to).length := by rw [hR]; simp only [List.length_append]
          have hsm : Sml (ref1R l x to) := ⟨by rw [← hRl]; simp; omega, hRw⟩
          rw [hrows] at a5
          refine Runs.freezes [] [8, 115] id5 0 (ref1R l x to).length (ob := ⟨28, 20, (ref1R l x to).map encN⟩) (σ' := σ1) hs5 a5 (hs4.none f5) ?_ (by simp) ?_
          · rw [← hRl]
            intro d hd'
            rcases List.mem_cons.1 hd' with rfl | hd'
            · rfl
            · rcases List.mem_cons.1 hd' with rfl | hd'
              · rfl
              · cases hd'
          · have hfold : List.take (ref1R l x to).length ((ref1R l x to).map encN) = (ref1R l x to).map encN := List.take_of_length_le (by simp)
            have hf2 : V.sl 20 ((ref1R l x to).map encN) = encNs (ref1R l x to) := rfl
            simp only [List.drop_zero, hfold, hf2]
            refine Runs.pcall rfl rfl rfl (own8_c (ref1R l x to) hsm _) ?_
            (refine Runs.of_step Orc.nothing 300 ?_; simp -implicitDefEqProofs only [BB, Int.reduceEq, Int.reduceNe, Int.reduceLT, Int.reduceLE, Int.reduceGT, Int.reduceGE, Nat.reduceEqDiff, Nat.reduceAdd, Nat.reduceMul, Nat.reduceLeDiff, Nat.reduceSub, Nat.reduceLT, Nat.reduceBEq, ↓reduceIte, reduceCtorEq, ← decide_not, okind, vpre, vpure, intBin, intPre, strBin, strPre, popTo, argSlots, fldV, fldAV, subCells, idxVV, idxAAV, idxSV, sliceV, sliceSV, boundV, szIs, storeOp, storeS, setRowV, eff, extV, buildV, splice, eqSV, fitsL, eqCells, eqCell, minmaxV, capV, binBV, nilCheckV, bytesV, V.cells, V.stays, Orc.nothing])
            refine Runs.pcall rfl rfl rfl (is_c (ref1R l x to) hsm.fine _) ?_
            (refine Runs.of_step Orc.nothing 300 ?_; simp -implicitDefEqProofs only [BB, Int.reduceEq, Int.reduceNe, Int.reduceLT, Int.reduceLE, Int.reduceGT, Int.reduceGE, Nat.reduceEqDiff, Nat.reduceAdd, Nat.reduceMul, Nat.reduceLeDiff, Nat.reduceSub, Nat.reduceLT, Nat.reduceBEq, ↓reduceIte, reduceCtorEq, ← decide_not, okind, vpre, vpure, intBin, intPre, strBin, strPre, popTo, argSlots, fldV, fldAV, subCells, idxVV, idxAAV, idxSV, sliceV, sliceSV, boundV, szIs, storeOp, storeS, setRowV, eff, extV, buildV, splice, eqSV, fitsL, eqCells, eqCell, minmaxV, capV, binBV, nilCheckV, bytesV, V.cells, V.stays, Orc.nothing])
            exact RetV.pure s1 rfl
end Go.Vc
namespace Go.Vc
open Go.Proofs
theorem ref_do (l : List Nd) (x : Ed) : doR l x = if (refDoR l x).2 = true then some (refDoR l x).1 else none := by
  cases hb : isB l
  · have hre : refDoR l x = ([], false) := by rw [refDoR, if_pos hb]
    rw [hre, doR, if_pos (.inl hb)]; simp
  have hnb : ¬ (isB l = false) := by rw [hb]; simp
  by_cases hk : x.kind < 1 ∨ 2 < x.kind
  · have hre : refDoR l x = ([], false) := by rw [refDoR, if_neg hnb, if_neg (show ¬ x.kind = 2 by omega), if_pos (.inl (by omega))]
    rw [hre, doR, if_pos (.inr hk)]; simp
  have hdo : doR l x = match outR l x with
      | none => none
      | some out => if isB out = true then some out else none := by
    rw [doR, if_neg (fun h => h.elim hnb hk)]
    all_goals (cases outR l x <;> rfl)
  by_cases hk2 : x.kind = 2
  · have hre : refDoR l x = if blockR l x.pos = false ∨ x.into ≠ 0 ∨ x.many ≠ 0 ∨ 0 < x.sub.length then ([], false) else (restyle l x.pos.toNat x.st, isB (restyle l x.pos.toNat x.st)) := by
      rw [refDoR, if_neg hnb, if_pos hk2]
    rw [hdo, hre, outR, if_neg (show ¬ x.kind = 1 by omega), styleR]
    by_cases hc : blockR l x.pos = false ∨ x.into ≠ 0 ∨ x.many ≠ 0 ∨ 0 < x.sub.length
    · rw [if_pos hc, if_pos hc]; simp
    · rw [if_neg hc, if_neg hc]
  · have hk1 : x.kind = 1 := by omega
    have hre : refDoR l x = if x.kind ≠ 1 ∨ endR l x.into x.pos x.many < 0 ∨ isB x.sub = false ∨ x.st ≠ Sty.zero then ([], false)
        else (ref1R l x (endR l x.into x.pos x.many), isB (ref1R l x (endR l x.into x.pos x.many))) := by
      rw [refDoR, if_neg hnb, if_neg hk2]
    rw [hdo, hre, outR, if_pos hk1, swapR]
    obtain ⟨hgo, hgt⟩ := gone_end hb x.into x.pos x.many
    by_cases he : endR l x.into x.pos x.many < 0
    · have hf : (goneR l x.into x.pos x.many).2.2 = false := by rw [hgo, decide_eq_false_iff_not]; omega
      have hc1 : x.kind ≠ 1 ∨ endR l x.into x.pos x.many < 0 ∨ isB x.sub = false ∨ x.st ≠ Sty.zero := .inr (.inl he)
      rw [if_pos hc1, if_pos (show (goneR l x.into x.pos x.many).2.2 = false ∨ isB x.sub = false ∨ x.st ≠ Sty.zero from .inl hf)]; simp
    · have hok : (goneR l x.into x.pos x.many).2.2 = true := by rw [hgo, decide_eq_true_eq]; omega
      have hto := hgt hok
      by_cases hc : isB x.sub = false ∨ x.st ≠ Sty.zero
      · have hc1 : x.kind ≠ 1 ∨ endR l x.into x.pos x.many < 0 ∨ isB x.sub = false ∨ x.st ≠ Sty.zero := .inr (.inr hc)
        rw [if_pos hc1, if_pos (show (goneR l x.into x.pos x.many).2.2 = false ∨ isB x.sub = false ∨ x.st ≠ Sty.zero from .inr hc)]; simp
      · have hc1 : ¬ (x.kind ≠ 1 ∨ endR l x.into x.pos x.many < 0 ∨ isB x.sub = false ∨ x.st ≠ Sty.zero) := by
          rintro (h | h | h)
          · exact h hk1
          · exact he h
          · exact hc h
        have hc2 : ¬ ((goneR l x.into x.pos x.many).2.2 = false ∨ isB x.sub = false ∨ x.st ≠ Sty.zero) := by
          rintro (h | h)
          · rw [hok] at h; cases h
          · exact hc h
        rw [if_neg hc1, if_neg hc2]
        rcases hg : goneR l x.into x.pos x.many with ⟨fr, to, ok⟩
        rw [hg] at hok hto
        simp only at hok hto
        subst hok
        obtain ⟨rfl, g1, g2, g3, g4, _⟩ := goneR_facts hb hg
        simp only
        rw [swapL_eq hb (by omega) g4 (by omega), ← hto, ref1R]
theorem swapL_len {l : List Nd} {x : Ed} {to : Int} (h1 : 0 ≤ x.pos) (h2 : x.pos ≤ to) (h3 : to ≤ l.length) : (swapL l x to).length = l.length + x.sub.length - (to - x.pos).toNat := by
  rw [swapL, bumps_length]; simp; omega
/-- of a size -/
def Len (N : Nat) (l : List Nd) : Prop := l.length ≤ N ∧ ∀ x ∈ l, x.words.length ≤ 1000000000
theorem Len.hlf {N : Nat} {l : List Nd} (h : Len N l) (hN : N ≤ 5000) : Hlf l := ⟨by have := h.1; omega, h.2⟩
theorem outR_len {N M : Nat} {l out : List Nd} {x : Ed} (hl : Len N l) (hb : isB l = true) (hx : Len M x.sub) (h : outR l x = some out) : Len (N + M) out := by
  unfold outR at h
  split at h
  · obtain ⟨to, hg, hbs, hz, rfl⟩ := swapR_some h
    obtain ⟨_, g1, g2, g3, g4, _⟩ := goneR_facts hb hg
    refine ⟨?_, bumps_words fun y hy => ?_⟩
    · rw [swapL_len (by omega) g2 g3]
      have := hl.1; have := hx.1; omega
    · simp only [List.mem_append] at hy
      rcases hy with (hy | hy) | hy
      · exact hl.2 y (List.mem_of_mem_take hy)
      · exact hx.2 y hy
      · exact hl.2 y (List.mem_of_mem_drop hy)
  · obtain ⟨_, _, _, _, rfl⟩ := styleR_some h
    refine ⟨by rw [restyle_length]; have := hl.1; omega, fun y hy => ?_⟩
    unfold restyle at hy
    split at hy
    · rename_i z hz
      rcases List.mem_or_eq_of_mem_set hy with hy | rfl
      · exact hl.2 y hy
      · exact hl.2 z (List.mem_of_getElem? hz)
    · exact hl.2 y hy
theorem doR_len {N M : Nat} {l out : List Nd} {x : Ed} (hl : Len N l) (hx : Len M x.sub) (h : doR l x = some out) : Len (N + M) out := by
  obtain ⟨hb, _, ho, _⟩ := doR_some h
  exact outR_len hl hb hx ho
/-- a row of edits -/
def runR : List Nd → List Ed → List Nd × Nat
  | l, [] => (l, 0)
  | l, x :: xs => match doR l x with
    | none => (l, 0)
    | some out => ((runR out xs).1, (runR out xs).2 + 1)
end Go.Vc
namespace Go.Vc
open Go.Proofs
def rowsF (l : List Nd) : Nat → Nat → Nat → Bool
  | 0, _, _ => true
  | m + 1, a, e => if a < e then
      match l[a]? with
      | none => false
      | some x => if 1 ≤ x.size ∧ x.size ≤ (e : Int) - a then
          (decide (x.kind = 1) || decide (x.size ≤ 1)) && rowsF l m (a + 1) (a + x.size.toNat) && rowsF l m (a + x.size.toNat) e else false
    else true
theorem rowsF_eq (l : List Nd) : ∀ m a e, e - a < m → rowsF l m a e = rowsB l a e
  | 0, _, _, h => by omega
  | m + 1, a, e, h => by
    rw [rowsF, rowsB]
    by_cases hlt : a < e
    · rw [if_pos hlt, dif_pos hlt]
      cases hx : l[a]? with
      | none => rfl
      | some x =>
        simp only
        by_cases hs : 1 ≤ x.size ∧ x.size ≤ (e : Int) - a
        · rw [if_pos hs, dif_pos hs, rowsF_eq l m _ _ (by omega), rowsF_eq l m _ _ (by omega)]
        · rw [if_neg hs, dif_neg hs]
    · rw [if_neg hlt, dif_neg hlt]
def isBF (l : List Nd) : Bool := l.all Nd.ok && rowsF l (l.length + 1) 0 l.length
theorem isB_F (l : List Nd) : isB l = isBF l := by rw [isB, isBF, rowsF_eq l _ _ _ (by omega)]
def outF (l : List Nd) (x : Ed) : Option (List Nd) :=
  if x.kind = 1 then (if (goneR l x.into x.pos x.many).2.2 = false ∨ isBF x.sub = false ∨ x.st ≠ Sty.zero then none else some (swapL l x (goneR l x.into x.pos x.many).2.1)) else styleR l x
def doF (l : List Nd) (x : Ed) : Option (List Nd) :=
  if isBF l = false ∨ x.kind < 1 ∨ 2 < x.kind then none else
  match outF l x with
  | none => none
  | some out => if isBF out = true then some out else none
theorem doR_F (l : List Nd) (x : Ed) : doR l x = doF l x := by
  have h : outR l x = outF l x := by simp only [outR, outF, swapR, isB_F]
  rw [doR, doF, h]
  all_goals simp only [isB_F]
  all_goals (split <;> first | rfl | (cases outF l x <;> rfl))
end Go.Vc
namespace Go.Vc
open Go.Proofs
/-- a row that is made: its first elements -/
def OutP (K σ : Store) (e sz : Nat) (v : V) (rows : List V) : Prop := (v = .nils ∧ rows = []) ∨ ∃ id all, v = .own id 0 rows.length ∧ σ id = some ⟨e, sz, all⟩ ∧ all.take rows.length = rows ∧ K id = none
theorem OutV.outP {K σ : Store} {e sz : Nat} {v : V} {rows : List V} (h : OutV K σ e sz v rows) : OutP K σ e sz v rows := by
  rcases h with h | ⟨id, h1, h2, h3⟩
  · exact .inl h
  · exact .inr ⟨id, rows, h1, h2, List.take_length, h3⟩
theorem OutP.dst {K σ : Store} {e sz : Nat} {v : V} {rows : List V} (h : OutP K σ e sz v rows) {σ1 : Store} (hs : SubStore σ σ1) :
    ∃ idA, dstRows σ1 e sz v = some (rows, idA) ∧ ∀ K' : Store, SubStore K' K → ∀ σ2, SubStore K' σ2 → SubStore K' (delO σ2 idA) := by
  rcases h with ⟨rfl, rfl⟩ | ⟨id, all, rfl, ho, ht, hk⟩
  · exact ⟨none, rfl, fun _ _ _ h => h⟩
  · refine ⟨some id, ?_, fun K' hK σ2 h => h.delK (hK.none hk)⟩
    have hl : rows.length ≤ all.length := by
      have := congrArg List.length ht
      simp at this; omega
    simp only [dstRows, hs _ _ ho]
    rw [if_pos ⟨trivial, trivial, trivial, hl⟩, ht]
theorem OutP.wk {K σ : Store} {e sz : Nat} {v : V} {rows : List V} (h : OutP K σ e sz v rows) {K' : Store} (hK : SubStore K' K) (hs : SubStore K' σ) : Wk σ K' v (.sl sz rows) := by
  rcases h with ⟨rfl, rfl⟩ | ⟨id, all, rfl, ho, ht, hk⟩
  · exact Wk.nils sz
  · have hl : rows.length ≤ all.length := by
      have := congrArg List.length ht
      simp at this; omega
    have := Wk.own hs ho (hK.none hk) (off := 0) (len := rows.length) (by simpa using hl)
    rw [List.drop_zero, ht] at this
    exact this
theorem OutP.retv {K σ : Store} {e sz : Nat} {v : V} {rows : List V} (h : OutP K σ e sz v rows) (hs : SubStore K σ) {v0 : V} (hv : V.sl sz rows = v0) :
    RetV v σ fun r σ' => r = v0 ∧ σ' = K := ⟨_, K, hs, h.wk (SubStore.refl K) hs, hv, rfl⟩
theorem OutP.mono {K σ σ' : Store} {e sz : Nat} {v : V} {rows : List V} (h : OutP K σ e sz v rows) (hs : SubStore σ σ') : OutP K σ' e sz v rows := by
  rcases h with h | ⟨id, all, h1, h2, h3⟩
  · exact .inl h
  · exact .inr ⟨id, all, h1, hs _ _ h2, h3⟩
set_option maxRecDepth 100000 in
theorem grow_c (n : Nat) (hn : n ≤ 100000000) (σ : Store) : Contract Try.prog 82 [.nils, vI n] σ fun r σ' => SubStore σ σ' ∧ OutP σ σ' 28 20 r [] := by
  refine Contract.of_runs Try.func82 e82 k82 (by simp [c82]) ?_
  refine Runs.mix 5 ?_
  (refine Runs.of_step Orc.nothing 300 ?_; simp -implicitDefEqProofs only [BB, Int.reduceEq, Int.reduceNe, Int.reduceLT, Int.reduceLE, Int.reduceGT, Int.reduceGE, Nat.reduceEqDiff, Nat.reduceAdd, Nat.reduceMul, Nat.reduceLeDiff, Nat.reduceSub, Nat.reduceLT, Nat.reduceBEq, ↓reduceIte, reduceCtorEq, ← decide_not, okind, vpre, vpure, intBin, intPre, strBin, strPre, popTo, argSlots, fldV, fldAV, subCells, idxVV, idxAAV, idxSV, sliceV, sliceSV, boundV, szIs, storeOp, storeS, setRowV, eff, extV, buildV, splice, eqSV, fitsL, eqCells, eqCell, minmaxV, capV, binBV, nilCheckV, bytesV, V.cells, V.stays, Orc.nothing, c82])
  refine And.intro (fun h => by omega) (fun h => ?_)
  refine ⟨inR_i64 (by omega) (by omega), inR_i64 (by omega) (by omega), ?_⟩
  have e1 : (n : Int) - (0 - 0) = n := by omega
  rw [e1]
  refine And.intro (fun h1 => ?_) (fun h1 => ?_)
  · have hb : (0 : Int) < n ∧ (n : Int).toNat * 177 ≤ 140737488355328 := by omega
    simp -implicitDefEqProofs only [BB, Int.reduceEq, Int.reduceNe, Int.reduceLT, Int.reduceLE, Int.reduceGT, Int.reduceGE, Nat.reduceEqDiff, Nat.reduceAdd, Nat.reduceMul, Nat.reduceLeDiff, Nat.reduceSub, Nat.reduceLT, Nat.reduceBEq, ↓reduceIte, reduceCtorEq, ← decide_not, okind, vpre, vpure, intBin, intPre, strBin, strPre, popTo, argSlots, fldV, fldAV, subCells, idxVV, idxAAV, idxSV, sliceV, sliceSV, boundV, szIs, storeOp, storeS, setRowV, eff, extV, buildV, splice, eqSV, fitsL, eqCells, eqCell, minmaxV, capV, binBV, nilCheckV, bytesV, V.cells, V.stays, hb]
    refine effR_new fun id1 σ1 s1 a1 f1 => ?_
    have hsl : sliceV σ1 20 (.own id1 0 n) none (some (.int .i64 0)) none = some (.own id1 0 0) := by
      simp only [sliceV, boundV, szIs, a1]
      rw [if_pos ⟨by omega, by omega, by omega, by omega, by simp⟩]
      simp
    simp -implicitDefEqProofs only [BB, Int.reduceEq, Int.reduceNe, Int.reduceLT, Int.reduceLE, Int.reduceGT, Int.reduceGE, Nat.reduceEqDiff, Nat.reduceAdd, Nat.reduceMul, Nat.reduceLeDiff, Nat.reduceSub, Nat.reduceLT, Nat.reduceBEq, ↓reduceIte, reduceCtorEq, ← decide_not, okind, vpre, vpure, intBin, intPre, strBin, strPre, popTo, argSlots, fldV, fldAV, subCells, idxVV, idxAAV, idxSV, sliceSV, boundV, szIs, storeOp, storeS, setRowV, eff, extV, buildV, splice, eqSV, fitsL, eqCells, eqCell, minmaxV, capV, binBV, nilCheckV, bytesV, V.cells, V.stays, a1, Int.toNat_natCast, hsl]
    refine ⟨_, _, SubStore.refl _, Wk.refl (SubStore.refl _) _, s1, .inr ⟨id1, _, rfl, a1, rfl, f1⟩⟩
  · exact ⟨_, _, SubStore.refl _, Wk.refl (SubStore.refl _) _, SubStore.refl _, .inl ⟨rfl, rfl⟩⟩
/-- rows of nodes -/
def encT (L : List (List Nd)) : V := .sl 1 (L.map encNs)
theorem lenV_encT (L : List (List Nd)) : lenV false (encT L) = some (.int .i64 L.length) := by simp [encT, lenV]
theorem idxAV_encT {σ : Store} {L : List (List Nd)} {i : Nat} (h : i < L.length) : idxAV σ 1 (encT L) (.int .i64 i) = some (.rp (encNs L[i])) := by
  simp [encT, idxAV, h]
theorem loadV_rp_encNs (σ : Store) (l : List Nd) : loadV σ false 1 (.rp (encNs l)) = some (encNs l) := by simp [loadV, encNs, V.cells]
theorem sliceT_pre {σ : Store} {L : List (List Nd)} {s : Int} (h1 : 0 ≤ s) (h2 : s ≤ L.length) :
    sliceV σ 1 (encT L) none (some (.int .i64 s)) none = some (encT (L.take s.toNat)) := by
  simp only [encT, sliceV, boundV, List.length_map]
  rw [if_pos ⟨Int.le_refl _, h1, h2, Int.le_refl _, trivial⟩]
  simp [List.map_take]
theorem sliceT_from {σ : Store} {L : List (List Nd)} {s : Int} (h1 : 0 ≤ s) (h2 : s ≤ L.length) :
    sliceV σ 1 (encT L) (some (.int .i64 s)) none none = some (encT (L.drop s.toNat)) := by
  simp only [encT, sliceV, boundV, List.length_map]
  rw [if_pos ⟨h1, h2, Int.le_refl _, Int.le_refl _, trivial⟩]
  simp only [V.sl.injEq, Option.some.injEq, true_and]
  rw [List.map_drop, List.take_of_length_le]
  simp
set_option maxRecDepth 100000 in
theorem concat_c (L : List (List Nd)) (hL : L.length ≤ 10000) (hl : ∀ l ∈ L, l.length ≤ 10000) : PFun Try.prog 57 [encT L] (encNs L.flatten) := fun σ => by
  have hsum : ∀ i, i ≤ L.length → (L.take i).flatten.length ≤ i * 10000 := fun i hi => by
    induction i with
    | zero => simp
    | succ i ih =>
      rw [List.take_succ_eq_append_getElem (by omega), List.flatten_append, List.length_append]
      have := hl _ (List.getElem_mem (show i < L.length by omega))
      have := ih (by omega)
      simp only [List.flatten_cons, List.flatten_nil, List.append_nil]
      omega
  have hstep : ∀ i (h : i < L.length), (L.take (i + 1)).flatten = (L.take i).flatten ++ L[i] := fun i h => by
    rw [List.take_succ_eq_append_getElem h, List.flatten_append]; simp
  refine Contract.of_runs Try.func57 e57 k57 (by simp [c57]) ?_
  refine Runs.mix 9 ?_
  (refine Runs.of_step Orc.nothing 300 ?_; simp -implicitDefEqProofs only [BB, Int.reduceEq, Int.reduceNe, Int.reduceLT, Int.reduceLE, Int.reduceGT, Int.reduceGE, Nat.reduceEqDiff, Nat.reduceAdd, Nat.reduceMul, Nat.reduceLeDiff, Nat.reduceSub, Nat.reduceLT, Nat.reduceBEq, ↓reduceIte, reduceCtorEq, ← decide_not, okind, vpre, vpure, intBin, intPre, strBin, strPre, popTo, argSlots, fldV, fldAV, subCells, idxVV, idxAAV, idxSV, sliceV, sliceSV, boundV, szIs, storeOp, storeS, setRowV, eff, extV, buildV, splice, eqSV, fitsL, eqCells, eqCell, minmaxV, capV, binBV, nilCheckV, bytesV, V.cells, V.stays, Orc.nothing, c57, lenV_encT])
  refine Runs.loop (fun m st => ∃ i : Nat, i ≤ L.length ∧ m = L.length - i ∧ st.σ = σ ∧ st.s 0 = encT L ∧ st.s 2 = .nils ∧ st.s 3 = vI (L.take i).flatten.length ∧ st.s 9 = encT L ∧ st.s 10 = vI L.length ∧ st.s 11 = vI i) L.length ?_ ?_
  · exact ⟨0, by omega, by omega, rfl, rfl, rfl, rfl, rfl, rfl, rfl⟩
  · rintro m ⟨s, σ'⟩ ⟨i, hi, rfl, hσ, h0, h2, h3, h9, h10, h11⟩
    simp only at hσ h0 h2 h3 h9 h10 h11
    subst hσ
    refine Runs.mix 12 ?_
    (refine Runs.of_step Orc.nothing 300 ?_; simp -implicitDefEqProofs only [BB, Int.reduceEq, Int.reduceNe, Int.reduceLT, Int.reduceLE, Int.reduceGT, Int.reduceGE, Nat.reduceEqDiff, Nat.reduceAdd, Nat.reduceMul, Nat.reduceLeDiff, Nat.reduceSub, Nat.reduceLT, Nat.reduceBEq, ↓reduceIte, reduceCtorEq, ← decide_not, okind, vpre, vpure, intBin, intPre, strBin, strPre, popTo, argSlots, fldV, fldAV, subCells, idxVV, idxAAV, idxSV, sliceV, sliceSV, boundV, szIs, storeOp, storeS, setRowV, eff, extV, buildV, splice, eqSV, fitsL, eqCells, eqCell, minmaxV, capV, binBV, nilCheckV, bytesV, V.cells, V.stays, Orc.nothing, h0, h2, h3, h9, h10, h11])
    refine And.intro (fun hlt => ?_) (fun hge => ?_)
    · have hlt' : i < L.length := by omega
      have hs1 := hsum i hi
      have hs2 := hsum (i + 1) hlt'
      have hst := hstep i hlt'
      have hll := hl _ (List.getElem_mem hlt')
      have hlen : (L.take (i + 1)).flatten.length = (L.take i).flatten.length + L[i].length := by rw [hst, List.length_append]
      simp -implicitDefEqProofs only [BB, Int.reduceEq, Int.reduceNe, Int.reduceLT, Int.reduceLE, Int.reduceGT, Int.reduceGE, Nat.reduceEqDiff, Nat.reduceAdd, Nat.reduceMul, Nat.reduceLeDiff, Nat.reduceSub, Nat.reduceLT, Nat.reduceBEq, ↓reduceIte, reduceCtorEq, ← decide_not, okind, vpre, vpure, intBin, intPre, strBin, strPre, popTo, argSlots, fldV, fldAV, subCells, idxVV, idxAAV, idxSV, sliceV, sliceSV, boundV, szIs, storeOp, storeS, setRowV, eff, extV, buildV, splice, eqSV, fitsL, eqCells, eqCell, minmaxV, capV, binBV, nilCheckV, bytesV, V.cells, V.stays, idxAV_encT hlt', loadV_rp_encNs, lenV_encNs, h0, h2, h3, h9, h10, h11]
      refine ⟨inR_i64 (by omega) (by omega), And.intro (fun h => by omega) (fun h => ⟨inR_i64 (by omega) (by omega), _, ?_, i + 1, by omega, rfl, ?_⟩)⟩
      · omega
      · rw [hlen]
        simp
    · have hie : i = L.length := by omega
      subst hie
      rw [List.take_length]
      have hs0 := hsum L.length (Nat.le_refl _)
      rw [List.take_length] at hs0
      refine Runs.call rfl rfl rfl (grow_c L.flatten.length (by omega) _) ?_
      rintro r σ1 ⟨hsub1, hout1⟩
      simp only at hsub1 hout1
      (refine Runs.of_step Orc.nothing 300 ?_; simp -implicitDefEqProofs only [BB, Int.reduceEq, Int.reduceNe, Int.reduceLT, Int.reduceLE, Int.reduceGT, Int.reduceGE, Nat.reduceEqDiff, Nat.reduceAdd, Nat.reduceMul, Nat.reduceLeDiff, Nat.reduceSub, Nat.reduceLT, Nat.reduceBEq, ↓reduceIte, reduceCtorEq, ← decide_not, okind, vpre, vpure, intBin, intPre, strBin, strPre, popTo, argSlots, fldV, fldAV, subCells, idxVV, idxAAV, idxSV, sliceV, sliceSV, boundV, szIs, storeOp, storeS, setRowV, eff, extV, buildV, splice, eqSV, fitsL, eqCells, eqCell, minmaxV, capV, binBV, nilCheckV, bytesV, V.cells, V.stays, Orc.nothing, h0, h2, h3, h9, h10, h11, lenV_encT])
      refine Runs.loop (fun m st => ∃ i : Nat, i ≤ L.length ∧ m = L.length - i ∧ SubStore σ' st.σ ∧ OutP σ' st.σ 28 20 (st.s 6) ((L.take i).flatten.map encN) ∧ st.s 25 = encT L ∧ st.s 26 = vI L.length ∧ st.s 27 = vI i) L.length ?_ ?_
      · exact ⟨0, by omega, by omega, hsub1, hout1, rfl, rfl, rfl⟩
      · rintro m ⟨s, σ2⟩ ⟨i, hi, rfl, hsub, hout, h25, h26, h27⟩
        simp only at hsub hout h25 h26 h27
        refine Runs.mix 12 ?_
        (refine Runs.of_step Orc.nothing 300 ?_; simp -implicitDefEqProofs only [BB, Int.reduceEq, Int.reduceNe, Int.reduceLT, Int.reduceLE, Int.reduceGT, Int.reduceGE, Nat.reduceEqDiff, Nat.reduceAdd, Nat.reduceMul, Nat.reduceLeDiff, Nat.reduceSub, Nat.reduceLT, Nat.reduceBEq, ↓reduceIte, reduceCtorEq, ← decide_not, okind, vpre, vpure, intBin, intPre, strBin, strPre, popTo, argSlots, fldV, fldAV, subCells, idxVV, idxAAV, idxSV, sliceV, sliceSV, boundV, szIs, storeOp, storeS, setRowV, eff, extV, buildV, splice, eqSV, fitsL, eqCells, eqCell, minmaxV, capV, binBV, nilCheckV, bytesV, V.cells, V.stays, Orc.nothing, h25, h26, h27])
        refine And.intro (fun hlt => ?_) (fun hge => ?_)
        · have hlt' : i < L.length := by omega
          have hs1 := hsum i hi
          have hst := hstep i hlt'
          have hll := hl _ (List.getElem_mem hlt')
          have hsrc : ∀ (σ : Store) (l : List Nd), srcRows σ 20 (encNs l) = some (l.map encN) := fun σ l => by simp [encNs, srcRows]
          obtain ⟨idA, hd, hdel⟩ := hout.dst (SubStore.refl _)
          have hb : ((L.take i).flatten.length + L[i].length) * 177 ≤ 140737488355328 := by omega
          simp -implicitDefEqProofs only [BB, Int.reduceEq, Int.reduceNe, Int.reduceLT, Int.reduceLE, Int.reduceGT, Int.reduceGE, Nat.reduceEqDiff, Nat.reduceAdd, Nat.reduceMul, Nat.reduceLeDiff, Nat.reduceSub, Nat.reduceLT, Nat.reduceBEq, ↓reduceIte, reduceCtorEq, ← decide_not, okind, vpre, vpure, intBin, intPre, strBin, strPre, popTo, argSlots, fldV, fldAV, subCells, idxVV, idxAAV, idxSV, sliceV, sliceSV, boundV, szIs, storeOp, storeS, setRowV, eff, extV, buildV, splice, eqSV, fitsL, eqCells, eqCell, minmaxV, capV, binBV, nilCheckV, bytesV, V.cells, V.stays, idxAV_encT hlt', loadV_rp_encNs, h25, h26, h27, hd, hsrc, List.length_map, hb]
          refine effR_put fun id4 σ4 s4 a4 f4 => ?_
          have hs4 := (hdel σ' (SubStore.refl _) σ2 hsub).trans s4
          simp -implicitDefEqProofs only [BB, Int.reduceEq, Int.reduceNe, Int.reduceLT, Int.reduceLE, Int.reduceGT, Int.reduceGE, Nat.reduceEqDiff, Nat.reduceAdd, Nat.reduceMul, Nat.reduceLeDiff, Nat.reduceSub, Nat.reduceLT, Nat.reduceBEq, ↓reduceIte, reduceCtorEq, ← decide_not, okind, vpre, vpure, intBin, intPre, strBin, strPre, popTo, argSlots, fldV, fldAV, subCells, idxVV, idxAAV, idxSV, sliceV, sliceSV, boundV, szIs, storeOp, storeS, setRowV, eff, extV, buildV, splice, eqSV, fitsL, eqCells, eqCell, minmaxV, capV, binBV, nilCheckV, bytesV, V.cells, V.stays, h25, h26, h27]
          refine ⟨inR_i64 (by omega) (by omega), _, ?_, i + 1, by omega, rfl, hs4, ?_, ?_⟩
          · omega
          · rw [hst, List.map_append]
            exact (OutV.new (by simp only [List.length_append, List.length_map]) a4 (hsub.none f4)).outP
          · simp
        · have hie : i = L.length := by omega
          subst hie
          rw [List.take_length] at hout
          exact hout.retv hsub rfl
end Go.Vc
namespace Go.Vc
open Go.Proofs
def treesR (l : List Nd) : List (List Nd) := (kidsR l (-1)).map fun k => cutL l k (k + szI l k.toNat)
theorem kids_end {l : List Nd} (hb : isB l = true) {k : Int} (h : k ∈ kidsR l (-1)) : 0 ≤ k ∧ k.toNat < l.length ∧ k + szI l k.toNat ≤ l.length ∧ 1 ≤ szI l k.toNat := by
  obtain ⟨h1, h2⟩ := kidsR_mem h
  have hrows : rowsB l 0 l.length = true := by simp only [isB, Bool.and_eq_true] at hb; exact hb.2
  have := rowsB_ends (Nat.le_refl _) hrows (Nat.zero_le k.toNat) h2
  omega
theorem cutL_len {l : List Nd} {a e : Int} : (cutL l a e).length ≤ l.length := by rw [cutL]; simp; omega
theorem treesR_mem {l t : List Nd} (h : t ∈ treesR l) : t.length ≤ l.length ∧ ∀ x ∈ t, x ∈ l := by
  simp only [treesR, List.mem_map] at h
  obtain ⟨k, _, rfl⟩ := h
  exact ⟨cutL_len, fun x hx => List.mem_of_mem_drop (List.mem_of_mem_take hx)⟩
theorem treesR_len (l : List Nd) : (treesR l).length ≤ l.length := by rw [treesR, List.length_map]; exact kidsR_len l (-1)
set_option maxRecDepth 100000 in
theorem trees_c (l : List Nd) (hl : Fine l) (hb : isB l = true) : PFun Try.prog 54 [encNs l] (encT (treesR l)) := fun σ => by
  have hl1 := hl.1
  have hkl := kidsR_len l (-1)
  have hke := fun k (h : k ∈ kidsR l (-1)) => kids_end hb h
  refine Contract.of_runs Try.func54 e54 k54 (by simp [c54]) ?_
  refine Runs.mix 6 ?_
  (refine Runs.of_step Orc.nothing 300 ?_; simp -implicitDefEqProofs only [BB, Int.reduceEq, Int.reduceNe, Int.reduceLT, Int.reduceLE, Int.reduceGT, Int.reduceGE, Nat.reduceEqDiff, Nat.reduceAdd, Nat.reduceMul, Nat.reduceLeDiff, Nat.reduceSub, Nat.reduceLT, Nat.reduceBEq, ↓reduceIte, reduceCtorEq, ← decide_not, okind, vpre, vpure, intBin, intPre, strBin, strPre, popTo, argSlots, fldV, fldAV, subCells, idxVV, idxAAV, idxSV, sliceV, sliceSV, boundV, szIs, storeOp, storeS, setRowV, eff, extV, buildV, splice, eqSV, fitsL, eqCells, eqCell, minmaxV, capV, binBV, nilCheckV, bytesV, V.cells, V.stays, Orc.nothing, c54])
  refine Runs.pcall rfl rfl rfl (kids9_p l hl hb (-1) (.inl rfl) _) ?_
  have hT : encT (treesR l) = .sl 1 ((kidsR l (-1)).map fun k => encNs (cutL l k (k + szI l k.toNat))) := by
    rw [encT, treesR, List.map_map]; rfl
  rw [hT]
  generalize kidsR l (-1) = ks at *
  (refine Runs.of_step Orc.nothing 300 ?_; simp -implicitDefEqProofs only [BB, Int.reduceEq, Int.reduceNe, Int.reduceLT, Int.reduceLE, Int.reduceGT, Int.reduceGE, Nat.reduceEqDiff, Nat.reduceAdd, Nat.reduceMul, Nat.reduceLeDiff, Nat.reduceSub, Nat.reduceLT, Nat.reduceBEq, ↓reduceIte, reduceCtorEq, ← decide_not, okind, vpre, vpure, intBin, intPre, strBin, strPre, popTo, argSlots, fldV, fldAV, subCells, idxVV, idxAAV, idxSV, sliceV, sliceSV, boundV, szIs, storeOp, storeS, setRowV, eff, extV, buildV, splice, eqSV, fitsL, eqCells, eqCell, minmaxV, capV, binBV, nilCheckV, bytesV, V.cells, V.stays, Orc.nothing, lenV_encI])
  refine Runs.loop (fun m st => ∃ i : Nat, i ≤ ks.length ∧ m = ks.length - i ∧ SubStore σ st.σ ∧ OutV σ st.σ 22 1 (st.s 3) ((ks.take i).map fun k => encNs (cutL l k (k + szI l k.toNat))) ∧ st.s 0 = encNs l ∧ st.s 7 = encI ks ∧ st.s 8 = vI ks.length ∧ st.s 9 = vI i) ks.length ?_ ?_
  · exact ⟨0, by omega, by omega, SubStore.refl _, .inl ⟨rfl, rfl⟩, rfl, rfl, rfl, rfl⟩
  · rintro m ⟨s, σ'⟩ ⟨i, hi, rfl, hsub, hout, h0, h7, h8, h9⟩
    simp only at hsub hout h0 h7 h8 h9
    refine Runs.mix 10 ?_
    (refine Runs.of_step Orc.nothing 300 ?_; simp -implicitDefEqProofs only [BB, Int.reduceEq, Int.reduceNe, Int.reduceLT, Int.reduceLE, Int.reduceGT, Int.reduceGE, Nat.reduceEqDiff, Nat.reduceAdd, Nat.reduceMul, Nat.reduceLeDiff, Nat.reduceSub, Nat.reduceLT, Nat.reduceBEq, ↓reduceIte, reduceCtorEq, ← decide_not, okind, vpre, vpure, intBin, intPre, strBin, strPre, popTo, argSlots, fldV, fldAV, subCells, idxVV, idxAAV, idxSV, sliceV, sliceSV, boundV, szIs, storeOp, storeS, setRowV, eff, extV, buildV, splice, eqSV, fitsL, eqCells, eqCell, minmaxV, capV, binBV, nilCheckV, bytesV, V.cells, V.stays, Orc.nothing, h0, h7, h8, h9])
    refine And.intro (fun hlt => ?_) (fun hge => ?_)
    · have hlt' : i < ks.length := by omega
      obtain ⟨g1, g2, g3, g4⟩ := hke _ (List.getElem_mem hlt')
      have hst : (ks.take (i + 1)).map (fun k => encNs (cutL l k (k + szI l k.toNat))) = (ks.take i).map (fun k => encNs (cutL l k (k + szI l k.toNat))) ++ [encNs (cutL l ks[i] (ks[i] + szI l ks[i].toNat))] := by
        rw [List.take_succ_eq_append_getElem hlt', List.map_append]; rfl
      have hx := fun σ => idxAV_encNsI (σ := σ) g1 g2
      have hse := szI_eq g2
      have hsl := fun σ => sliceV_encNs (σ := σ) (l := l) (s := ks[i]) (e := ks[i] + szI l ks[i].toNat) g1 (by omega) g3
      have hcut : (l.drop ks[i].toNat).take ((ks[i] + szI l ks[i].toNat).toNat - ks[i].toNat) = cutL l ks[i] (ks[i] + szI l ks[i].toNat) := rfl
      rw [hcut] at hsl
      simp -implicitDefEqProofs only [BB, Int.reduceEq, Int.reduceNe, Int.reduceLT, Int.reduceLE, Int.reduceGT, Int.reduceGE, Nat.reduceEqDiff, Nat.reduceAdd, Nat.reduceMul, Nat.reduceLeDiff, Nat.reduceSub, Nat.reduceLT, Nat.reduceBEq, ↓reduceIte, reduceCtorEq, ← decide_not, okind, vpre, vpure, intBin, intPre, strBin, strPre, popTo, argSlots, fldV, fldAV, subCells, idxVV, idxAAV, idxSV, sliceSV, boundV, szIs, storeOp, storeS, setRowV, eff, extV, buildV, splice, eqSV, fitsL, eqCells, eqCell, minmaxV, capV, binBV, nilCheckV, bytesV, V.cells, V.stays, idxAV_encI hlt', hx, Nd.cells, h0, h7, h8, h9]
      rw [← hse]
      simp -implicitDefEqProofs only [BB, Int.reduceEq, Int.reduceNe, Int.reduceLT, Int.reduceLE, Int.reduceGT, Int.reduceGE, Nat.reduceEqDiff, Nat.reduceAdd, Nat.reduceMul, Nat.reduceLeDiff, Nat.reduceSub, Nat.reduceLT, Nat.reduceBEq, ↓reduceIte, reduceCtorEq, ← decide_not, okind, vpre, vpure, intBin, intPre, strBin, strPre, popTo, argSlots, fldV, fldAV, subCells, idxVV, idxAAV, idxSV, sliceSV, boundV, szIs, storeOp, storeS, setRowV, eff, extV, buildV, splice, eqSV, fitsL, eqCells, eqCell, minmaxV, capV, binBV, nilCheckV, bytesV, hsl, h0, h7, h8, h9, encNs_cells, encNs_stays, V.cells_agg, V.cells_int, V.cells_nils, V.cells_own, V.cells_sl, V.cells_str, V.cells_bool, V.cells_fn, V.cells_ptr, V.cells_rp, V.stays_agg, V.stays_int, V.stays_nils, V.stays_own, V.stays_sl, V.stays_str, V.stays_bool, V.stays_fn, V.stays_ptr, V.stays_rp]
      refine ⟨inR_i64 (by omega) (by omega), ?_⟩
      refine effR_new fun id1 σ2 s2 a1 f1 => ?_
      obtain ⟨idA, hd, hdel⟩ := hout.dst s2
      have hb2 : (i + 1) * 25 ≤ 140737488355328 := by omega
      have hlt2 : (ks.take i).length = i := by simp; omega
      simp -implicitDefEqProofs only [BB, Int.reduceEq, Int.reduceNe, Int.reduceLT, Int.reduceLE, Int.reduceGT, Int.reduceGE, Nat.reduceEqDiff, Nat.reduceAdd, Nat.reduceMul, Nat.reduceLeDiff, Nat.reduceSub, Nat.reduceLT, Nat.reduceBEq, ↓reduceIte, reduceCtorEq, ← decide_not, okind, vpre, vpure, intBin, intPre, strBin, strPre, popTo, argSlots, fldV, fldAV, subCells, idxVV, idxAAV, idxSV, sliceV, sliceSV, boundV, szIs, storeOp, storeS, setRowV, eff, extV, buildV, splice, eqSV, fitsL, eqCells, eqCell, minmaxV, capV, binBV, nilCheckV, bytesV, V.cells, V.stays, hd, srcOne a1, List.length_map, hlt2, hb2, h0, h7, h8, h9]
      refine effR_put fun id2 σ3 s3 a2 f2 => ?_
      have hs3 := (hdel σ (SubStore.refl σ) σ2 (hsub.trans s2)).trans s3
      simp -implicitDefEqProofs only [BB, Int.reduceEq, Int.reduceNe, Int.reduceLT, Int.reduceLE, Int.reduceGT, Int.reduceGE, Nat.reduceEqDiff, Nat.reduceAdd, Nat.reduceMul, Nat.reduceLeDiff, Nat.reduceSub, Nat.reduceLT, Nat.reduceBEq, ↓reduceIte, reduceCtorEq, ← decide_not, okind, vpre, vpure, intBin, intPre, strBin, strPre, popTo, argSlots, fldV, fldAV, subCells, idxVV, idxAAV, idxSV, sliceV, sliceSV, boundV, szIs, storeOp, storeS, setRowV, eff, extV, buildV, splice, eqSV, fitsL, eqCells, eqCell, minmaxV, capV, binBV, nilCheckV, bytesV, V.cells, V.stays, h0, h7, h8, h9]
      refine ⟨inR_i64 (by omega) (by omega), _, ?_, i + 1, by omega, rfl, hs3, ?_, ?_⟩
      · omega
      · rw [hst]
        exact OutV.new (by simp only [List.length_append, List.length_map, hlt2, List.length_cons, List.length_nil]) a2 ((hsub.trans s2).none f2)
      · simp
    · have hie : i = ks.length := by omega
      subst hie
      rw [List.take_length] at hout
      exact hout.retv hsub rfl
def alikeN (eq : Nat → Bool) : Nat → Nat → Nat
  | 0, n => n
  | f + 1, n => if eq n then alikeN eq f (n + 1) else n
def alikeR (tell : List (List Nd) → Nat → List Nd) (a b : List (List Nd)) : Nat := alikeN (fun n => decide (tell a n = tell b n)) (min a.length b.length) 0
theorem alikeN_le (eq : Nat → Bool) : ∀ f n, n ≤ alikeN eq f n ∧ alikeN eq f n ≤ n + f
  | 0, n => by simp [alikeN]
  | f + 1, n => by
    rw [alikeN]
    split
    · have := alikeN_le eq f (n + 1); omega
    · omega
theorem alikeR_le (tell : List (List Nd) → Nat → List Nd) (a b : List (List Nd)) : alikeR tell a b ≤ a.length ∧ alikeR tell a b ≤ b.length := by
  have := alikeN_le (fun n => decide (tell a n = tell b n)) (min a.length b.length) 0
  rw [alikeR]; omega
set_option maxRecDepth 100000 in
theorem alike_c (tell : List (List Nd) → Nat → List Nd) (g : FuncId) (a b : List (List Nd)) (ha : a.length ≤ 10000) (hb : b.length ≤ 10000)
    (hg : ∀ (L : List (List Nd)) (k : Nat), L.length ≤ 10000 → k < L.length → PFun Try.prog g [encT L, vI k] (encNs (tell L k)))
    (hfa : ∀ k, k < a.length → Fine (tell a k)) (hfb : ∀ k, k < b.length → Fine (tell b k)) : PFun Try.prog 55 [encT a, encT b, .fn g []] (vI (alikeR tell a b)) := fun σ => by
  refine Contract.of_runs Try.func55 e55 k55 (by simp [c55]) ?_
  refine Runs.mix 8 ?_
  (refine Runs.of_step Orc.nothing 300 ?_; simp -implicitDefEqProofs only [BB, Int.reduceEq, Int.reduceNe, Int.reduceLT, Int.reduceLE, Int.reduceGT, Int.reduceGE, Nat.reduceEqDiff, Nat.reduceAdd, Nat.reduceMul, Nat.reduceLeDiff, Nat.reduceSub, Nat.reduceLT, Nat.reduceBEq, ↓reduceIte, reduceCtorEq, ← decide_not, okind, vpre, vpure, intBin, intPre, strBin, strPre, popTo, argSlots, fldV, fldAV, subCells, idxVV, idxAAV, idxSV, sliceV, sliceSV, boundV, szIs, storeOp, storeS, setRowV, eff, extV, buildV, splice, eqSV, fitsL, eqCells, eqCell, minmaxV, capV, binBV, nilCheckV, bytesV, V.cells, V.stays, Orc.nothing, c55])
  have hR : alikeR tell a b = alikeN (fun n => decide (tell a n = tell b n)) (min a.length b.length) 0 := rfl
  rw [hR]
  generalize hN : alikeN (fun n => decide (tell a n = tell b n)) (min a.length b.length) 0 = N at *
  refine Runs.loop (fun m st => ∃ n : Nat, n ≤ min a.length b.length ∧ m = min a.length b.length - n ∧ N = alikeN (fun n => decide (tell a n = tell b n)) m n ∧ st.σ = σ ∧ st.s 0 = encT a ∧ st.s 1 = encT b ∧ st.s 2 = .fn g [] ∧ st.s 7 = vI n) (min a.length b.length) ?_ ?_
  · exact ⟨0, by omega, by omega, hN.symm, rfl, rfl, rfl, rfl, rfl⟩
  · rintro m ⟨s, σ'⟩ ⟨n, hn, hm, heq, hσ, h0, h1, h2, h7⟩
    simp only at hσ h0 h1 h2 h7
    subst hσ
    refine Runs.mix 8 ?_
    (refine Runs.of_step Orc.nothing 300 ?_; simp -implicitDefEqProofs only [BB, Int.reduceEq, Int.reduceNe, Int.reduceLT, Int.reduceLE, Int.reduceGT, Int.reduceGE, Nat.reduceEqDiff, Nat.reduceAdd, Nat.reduceMul, Nat.reduceLeDiff, Nat.reduceSub, Nat.reduceLT, Nat.reduceBEq, ↓reduceIte, reduceCtorEq, ← decide_not, okind, vpre, vpure, intBin, intPre, strBin, strPre, popTo, argSlots, fldV, fldAV, subCells, idxVV, idxAAV, idxSV, sliceV, sliceSV, boundV, szIs, storeOp, storeS, setRowV, eff, extV, buildV, splice, eqSV, fitsL, eqCells, eqCell, minmaxV, capV, binBV, nilCheckV, bytesV, V.cells, V.stays, Orc.nothing, h0, h1, h2, h7, lenV_encT])
    have hmin : (if (b.length : Int) < a.length then (b.length : Int) else a.length) = ((min a.length b.length : Nat) : Int) := by
      split <;> omega
    rw [hmin]
    refine And.intro (fun hlt => ?_) (fun hge => ?_)
    · have hlt' : n < min a.length b.length := by omega
      obtain ⟨k, rfl⟩ : ∃ k, m = k + 1 := ⟨m - 1, by omega⟩
      refine Runs.pcall (f := g) (caps := []) rfl rfl rfl (hg a n ha (by omega) _) ?_
      (refine Runs.of_step Orc.nothing 300 ?_; simp -implicitDefEqProofs only [BB, Int.reduceEq, Int.reduceNe, Int.reduceLT, Int.reduceLE, Int.reduceGT, Int.reduceGE, Nat.reduceEqDiff, Nat.reduceAdd, Nat.reduceMul, Nat.reduceLeDiff, Nat.reduceSub, Nat.reduceLT, Nat.reduceBEq, ↓reduceIte, reduceCtorEq, ← decide_not, okind, vpre, vpure, intBin, intPre, strBin, strPre, popTo, argSlots, fldV, fldAV, subCells, idxVV, idxAAV, idxSV, sliceV, sliceSV, boundV, szIs, storeOp, storeS, setRowV, eff, extV, buildV, splice, eqSV, fitsL, eqCells, eqCell, minmaxV, capV, binBV, nilCheckV, bytesV, V.cells, V.stays, Orc.nothing, h0, h1, h2, h7])
      refine Runs.pcall (f := g) (caps := []) rfl rfl rfl (hg b n hb (by omega) _) ?_
      (refine Runs.of_step Orc.nothing 300 ?_; simp -implicitDefEqProofs only [BB, Int.reduceEq, Int.reduceNe, Int.reduceLT, Int.reduceLE, Int.reduceGT, Int.reduceGE, Nat.reduceEqDiff, Nat.reduceAdd, Nat.reduceMul, Nat.reduceLeDiff, Nat.reduceSub, Nat.reduceLT, Nat.reduceBEq, ↓reduceIte, reduceCtorEq, ← decide_not, okind, vpre, vpure, intBin, intPre, strBin, strPre, popTo, argSlots, fldV, fldAV, subCells, idxVV, idxAAV, idxSV, sliceV, sliceSV, boundV, szIs, storeOp, storeS, setRowV, eff, extV, buildV, splice, eqSV, fitsL, eqCells, eqCell, minmaxV, capV, binBV, nilCheckV, bytesV, V.cells, V.stays, Orc.nothing, h0, h1, h2, h7])
      refine Runs.pcall rfl rfl rfl (same9_c (tell a n) (tell b n) (hfa n (by omega)) (hfb n (by omega)) _) ?_
      rw [alikeN] at heq
      by_cases he : tell a n = tell b n
      · have hd : decide (tell a n = tell b n) = true := decide_eq_true he
        rw [hd] at heq ⊢
        simp only [if_true] at heq
        (refine Runs.of_step Orc.nothing 300 ?_; simp -implicitDefEqProofs only [BB, Int.reduceEq, Int.reduceNe, Int.reduceLT, Int.reduceLE, Int.reduceGT, Int.reduceGE, Nat.reduceEqDiff, Nat.reduceAdd, Nat.reduceMul, Nat.reduceLeDiff, Nat.reduceSub, Nat.reduceLT, Nat.reduceBEq, ↓reduceIte, reduceCtorEq, ← decide_not, okind, vpre, vpure, intBin, intPre, strBin, strPre, popTo, argSlots, fldV, fldAV, subCells, idxVV, idxAAV, idxSV, sliceV, sliceSV, boundV, szIs, storeOp, storeS, setRowV, eff, extV, buildV, splice, eqSV, fitsL, eqCells, eqCell, minmaxV, capV, binBV, nilCheckV, bytesV, V.cells, V.stays, Orc.nothing, h0, h1, h2, h7])
        exact ⟨inR_i64 (by omega) (by omega), k, by omega, n + 1, by omega, by omega, heq, by simp⟩
      · have hd : decide (tell a n = tell b n) = false := decide_eq_false he
        rw [hd] at heq ⊢
        simp only [Bool.false_eq_true, if_false] at heq
        (refine Runs.of_step Orc.nothing 300 ?_; simp -implicitDefEqProofs only [BB, Int.reduceEq, Int.reduceNe, Int.reduceLT, Int.reduceLE, Int.reduceGT, Int.reduceGE, Nat.reduceEqDiff, Nat.reduceAdd, Nat.reduceMul, Nat.reduceLeDiff, Nat.reduceSub, Nat.reduceLT, Nat.reduceBEq, ↓reduceIte, reduceCtorEq, ← decide_not, okind, vpre, vpure, intBin, intPre, strBin, strPre, popTo, argSlots, fldV, fldAV, subCells, idxVV, idxAAV, idxSV, sliceV, sliceSV, boundV, szIs, storeOp, storeS, setRowV, eff, extV, buildV, splice, eqSV, fitsL, eqCells, eqCell, minmaxV, capV, binBV, nilCheckV, bytesV, V.cells, V.stays, Orc.nothing, h0, h1, h2, h7])
        exact RetV.same (by rw [heq])
    · have hm0 : m = 0 := by omega
      subst hm0
      rw [alikeN] at heq
      exact RetV.same (by rw [heq])
def tellF (L : List (List Nd)) (k : Nat) : List Nd := (L[k]?).getD []
def tellL (L : List (List Nd)) (k : Nat) : List Nd := (L[L.length - 1 - k]?).getD []
set_option maxRecDepth 100000 in
theorem tellF_c (L : List (List Nd)) (k : Nat) (hL : L.length ≤ 10000) (hk : k < L.length) : PFun Try.prog 56 [encT L, vI k] (encNs (tellF L k)) := fun σ => by
  refine Contract.of_runs Try.func56 e56 k56 (by simp [c56]) ?_
  refine Runs.mix 5 ?_
  (refine Runs.of_step Orc.nothing 300 ?_; simp -implicitDefEqProofs only [BB, Int.reduceEq, Int.reduceNe, Int.reduceLT, Int.reduceLE, Int.reduceGT, Int.reduceGE, Nat.reduceEqDiff, Nat.reduceAdd, Nat.reduceMul, Nat.reduceLeDiff, Nat.reduceSub, Nat.reduceLT, Nat.reduceBEq, ↓reduceIte, reduceCtorEq, ← decide_not, okind, vpre, vpure, intBin, intPre, strBin, strPre, popTo, argSlots, fldV, fldAV, subCells, idxVV, idxAAV, idxSV, sliceV, sliceSV, boundV, szIs, storeOp, storeS, setRowV, eff, extV, buildV, splice, eqSV, fitsL, eqCells, eqCell, minmaxV, capV, binBV, nilCheckV, bytesV, V.cells, V.stays, Orc.nothing, c56, idxAV_encT hk, loadV_rp_encNs])
  exact RetV.same (by simp [tellF, hk])
set_option maxRecDepth 100000 in
theorem tellL_c (L : List (List Nd)) (k : Nat) (hL : L.length ≤ 10000) (hk : k < L.length) : PFun Try.prog 58 [encT L, vI k] (encNs (tellL L k)) := fun σ => by
  refine Contract.of_runs Try.func58 e58 k58 (by simp [c58]) ?_
  refine Runs.mix 5 ?_
  (refine Runs.of_step Orc.nothing 300 ?_; simp -implicitDefEqProofs only [BB, Int.reduceEq, Int.reduceNe, Int.reduceLT, Int.reduceLE, Int.reduceGT, Int.reduceGE, Nat.reduceEqDiff, Nat.reduceAdd, Nat.reduceMul, Nat.reduceLeDiff, Nat.reduceSub, Nat.reduceLT, Nat.reduceBEq, ↓reduceIte, reduceCtorEq, ← decide_not, okind, vpre, vpure, intBin, intPre, strBin, strPre, popTo, argSlots, fldV, fldAV, subCells, idxVV, idxAAV, idxSV, sliceV, sliceSV, boundV, szIs, storeOp, storeS, setRowV, eff, extV, buildV, splice, eqSV, fitsL, eqCells, eqCell, minmaxV, capV, binBV, nilCheckV, bytesV, V.cells, V.stays, Orc.nothing, c58, lenV_encT])
  have hk2 : L.length - 1 - k < L.length := by omega
  have e : (L.length : Int) - 1 - k = ((L.length - 1 - k : Nat) : Int) := by omega
  rw [e]
  simp -implicitDefEqProofs only [BB, Int.reduceEq, Int.reduceNe, Int.reduceLT, Int.reduceLE, Int.reduceGT, Int.reduceGE, Nat.reduceEqDiff, Nat.reduceAdd, Nat.reduceMul, Nat.reduceLeDiff, Nat.reduceSub, Nat.reduceLT, Nat.reduceBEq, ↓reduceIte, reduceCtorEq, ← decide_not, okind, vpre, vpure, intBin, intPre, strBin, strPre, popTo, argSlots, fldV, fldAV, subCells, idxVV, idxAAV, idxSV, sliceV, sliceSV, boundV, szIs, storeOp, storeS, setRowV, eff, extV, buildV, splice, eqSV, fitsL, eqCells, eqCell, minmaxV, capV, binBV, nilCheckV, bytesV, V.cells, V.stays, idxAV_encT hk2, loadV_rp_encNs]
  exact ⟨inR_i64 (by omega) (by omega), inR_i64 (by omega) (by omega), RetV.same (by simp [tellL, hk2])⟩
/-- the edit between two documents -/
def betweenC (a b : List Nd) : Ed :=
  let x := treesR a; let y := treesR b
  let first := alikeR tellF x y
  let last := alikeR tellL (x.drop first) (y.drop first)
  ⟨1, -1, (x.take first).flatten.length, ((x.drop first).length : Int) - last, ((y.drop first).take ((y.drop first).length - last)).flatten, Sty.zero⟩
def betweenR (a b : List Nd) : Ed := if isB a && isB b then betweenC a b else Ed.zero
end Go.Vc
