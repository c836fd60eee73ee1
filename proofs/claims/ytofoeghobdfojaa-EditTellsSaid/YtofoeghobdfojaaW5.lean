/- Part 5 of the library of this proof. -/
import Derived.Test.YtofoeghobdfojaaW4
set_option linter.all false
namespace Go.Vc
open Go.Proofs
def encH (x : Ed) (l : List Nd) : V := .agg [.int .i64 x.kind, .int .i64 x.into, .int .i64 x.pos, .int .i64 x.many, encNs x.sub, .int .i64 x.st.top, .int .i64 x.st.bottom, .int .i64 x.st.padTop, .int .i64 x.st.padBottom, .int .i64 x.st.inset, .int .i64 x.st.orphans, .int .i64 x.st.widows, .int .i64 x.st.head, .int .i64 x.st.before, .int .i64 x.st.after, .int .i64 x.st.inside, .int .i64 x.st.clear, encNs l]
def idxI (a : Int) : List Int → Nat → Int
  | [], _ => -1
  | q :: r, i => if a = q then i else idxI a r (i + 1)
theorem idxI_drop {a : Int} {p : List Int} {i : Nat} (h : i < p.length) : idxI a (p.drop i) i = if a = p[i] then (i : Int) else idxI a (p.drop (i + 1)) (i + 1) := by
  rw [List.drop_eq_getElem_cons h, idxI]
set_option maxRecDepth 100000 in
theorem index_c (p : List Int) (hp : p.length ≤ 1000000000) (a : Int) : PFun Try.prog 72 [encI p, vI a] (vI (idxI a p 0)) := fun σ => by
  refine Contract.of_runs Try.func72 e72 k72 (by simp [c72]) ?_
  refine Runs.mix 9 ?_
  (refine Runs.of_step Orc.nothing 300 ?_; simp -implicitDefEqProofs only [BB, effR_some, effD_some, Int.reduceEq, Int.reduceNe, Int.reduceLT, Int.reduceLE, Int.reduceGT, Int.reduceGE, Nat.reduceEqDiff, Nat.reduceAdd, Nat.reduceMul, Nat.reduceLeDiff, Nat.reduceSub, Nat.reduceLT, Nat.reduceBEq, ↓reduceIte, reduceCtorEq, ← decide_not, okind, vpre, vpure, intBin, intPre, strBin, strPre, popTo, argSlots, fldV, fldAV, subCells, idxVV, idxAAV, idxSV, sliceV, sliceSV, boundV, szIs, storeOp, storeS, setRowV, eff, extV, buildV, splice, eqSV, fitsL, eqCells, eqCell, minmaxV, capV, binBV, nilCheckV, bytesV, V.cells, V.stays, Orc.nothing, c72, lenV_encI])
  refine Runs.loop (fun m st => ∃ (i : Nat), i ≤ p.length ∧ m = p.length - i ∧ idxI a p 0 = idxI a (p.drop i) i ∧ st.σ = σ ∧ st.s 0 = encI p ∧ st.s 1 = vI a ∧ st.s 7 = vI p.length ∧ st.s 8 = vI i) p.length ?_ ?_
  · exact ⟨0, by omega, rfl, rfl, rfl, rfl, rfl, rfl, rfl⟩
  · rintro m ⟨s, σ'⟩ ⟨i, hi, rfl, heq, hσ, h0, h1, h7, h8⟩
    simp only at hσ h0 h1 h7 h8
    subst hσ
    refine Runs.mix 9 ?_
    (refine Runs.of_step Orc.nothing 300 ?_; simp -implicitDefEqProofs only [BB, effR_some, effD_some, Int.reduceEq, Int.reduceNe, Int.reduceLT, Int.reduceLE, Int.reduceGT, Int.reduceGE, Nat.reduceEqDiff, Nat.reduceAdd, Nat.reduceMul, Nat.reduceLeDiff, Nat.reduceSub, Nat.reduceLT, Nat.reduceBEq, ↓reduceIte, reduceCtorEq, ← decide_not, okind, vpre, vpure, intBin, intPre, strBin, strPre, popTo, argSlots, fldV, fldAV, subCells, idxVV, idxAAV, idxSV, sliceV, sliceSV, boundV, szIs, storeOp, storeS, setRowV, eff, extV, buildV, splice, eqSV, fitsL, eqCells, eqCell, minmaxV, capV, binBV, nilCheckV, bytesV, V.cells, V.stays, Orc.nothing, h0, h1, h7, h8])
    refine And.intro (fun h => ?_) (fun h => ?_)
    · have hlt : i < p.length := by omega
      have hd := idxI_drop (a := a) hlt
      simp -implicitDefEqProofs only [BB, effR_some, effD_some, Int.reduceEq, Int.reduceNe, Int.reduceLT, Int.reduceLE, Int.reduceGT, Int.reduceGE, Nat.reduceEqDiff, Nat.reduceAdd, Nat.reduceMul, Nat.reduceLeDiff, Nat.reduceSub, Nat.reduceLT, Nat.reduceBEq, ↓reduceIte, reduceCtorEq, ← decide_not, okind, vpre, vpure, intBin, intPre, strBin, strPre, popTo, argSlots, fldV, fldAV, subCells, idxVV, idxAAV, idxSV, sliceV, sliceSV, boundV, szIs, storeOp, storeS, setRowV, eff, extV, buildV, splice, eqSV, fitsL, eqCells, eqCell, minmaxV, capV, binBV, nilCheckV, bytesV, V.cells, V.stays, idxAV_encI hlt, h0, h1, h7, h8]
      refine And.intro (fun hc => ?_) (fun hc => ?_)
      · refine RetV.same ?_
        rw [heq, hd, if_pos (by simpa using hc)]
      · refine ⟨inR_i64 (by omega) (by omega), _, ?_, i + 1, by omega, rfl, ?_, by simp⟩
        · omega
        · rw [heq, hd, if_neg (by simpa using hc)]
    · have hie : i = p.length := by omega
      refine RetV.same ?_
      rw [heq, hie, List.drop_length]; rfl
set_option maxRecDepth 100000 in
theorem block9_c (x : Ed) (l : List Nd) (a : Int) : PFun Try.prog 70 [encH x l, vI a] (.bool (blockR l a)) := fun σ => by
  refine Contract.of_runs Try.func70 e70 k70 (by simp [c70]) ?_
  refine Runs.mix 6 ?_
  (refine Runs.of_step Orc.nothing 300 ?_; simp -implicitDefEqProofs only [BB, Int.reduceEq, Int.reduceNe, Int.reduceLT, Int.reduceLE, Int.reduceGT, Int.reduceGE, Nat.reduceEqDiff, Nat.reduceAdd, Nat.reduceMul, Nat.reduceLeDiff, Nat.reduceSub, Nat.reduceLT, Nat.reduceBEq, ↓reduceIte, reduceCtorEq, ← decide_not, okind, vpre, vpure, intBin, intPre, strBin, strPre, popTo, argSlots, fldV, fldAV, subCells, idxVV, idxAAV, idxSV, sliceV, sliceSV, boundV, szIs, storeOp, storeS, setRowV, eff, extV, buildV, splice, eqSV, fitsL, eqCells, eqCell, minmaxV, capV, binBV, nilCheckV, bytesV, V.cells, V.stays, Orc.nothing, c70, encH, encNs_cells, encNs_stays])
  refine effR_new fun id2 σ1 s1 a2 f2 => ?_
  simp -implicitDefEqProofs only [BB, Int.reduceEq, Int.reduceNe, Int.reduceLT, Int.reduceLE, Int.reduceGT, Int.reduceGE, Nat.reduceEqDiff, Nat.reduceAdd, Nat.reduceMul, Nat.reduceLeDiff, Nat.reduceSub, Nat.reduceLT, Nat.reduceBEq, ↓reduceIte, reduceCtorEq, ← decide_not, okind, vpre, vpure, intBin, intPre, strBin, strPre, popTo, argSlots, fldV, fldAV, subCells, idxVV, idxAAV, idxSV, sliceV, sliceSV, boundV, szIs, storeOp, storeS, setRowV, eff, extV, buildV, splice, eqSV, fitsL, eqCells, eqCell, minmaxV, capV, binBV, nilCheckV, bytesV, V.cells, V.stays, a2, encNs_cells, encNs_stays, lenV_encNs]
  refine And.intro (fun h0 => And.intro (fun h1 => ?_) (fun h1 => ?_)) (fun h0 => ?_)
  · have hlt : a.toNat < l.length := by omega
    simp -implicitDefEqProofs only [BB, Int.reduceEq, Int.reduceNe, Int.reduceLT, Int.reduceLE, Int.reduceGT, Int.reduceGE, Nat.reduceEqDiff, Nat.reduceAdd, Nat.reduceMul, Nat.reduceLeDiff, Nat.reduceSub, Nat.reduceLT, Nat.reduceBEq, ↓reduceIte, reduceCtorEq, ← decide_not, okind, vpre, vpure, intBin, intPre, strBin, strPre, popTo, argSlots, fldV, fldAV, subCells, idxVV, idxAAV, idxSV, sliceV, sliceSV, boundV, szIs, storeOp, storeS, setRowV, eff, extV, buildV, splice, eqSV, fitsL, eqCells, eqCell, minmaxV, capV, binBV, nilCheckV, bytesV, V.cells, V.stays, idxAV_encNsI h0 hlt, Nd.cells]
    refine RetV.pure s1 ?_
    have : hasI l a = true := hasI_iff.2 ⟨by omega, by omega⟩
    simp [blockR, this, kdI_eq hlt]
  · refine RetV.pure s1 ?_
    have : hasI l a = false := by simp [hasI]; omega
    simp [blockR, this]
  · refine RetV.pure s1 ?_
    have : hasI l a = false := by simp [hasI]; omega
    simp [blockR, this]
set_option maxRecDepth 100000 in
theorem clip_c {K σ : Store} {v : V} {rows : List V} (h : OutV K σ 3 1 v rows) (hl : rows.length ≤ 1000000000) : Contract Try.prog 92 [v] σ fun r σ' => r = v ∧ σ' = σ := by
  rcases h with ⟨rfl, rfl⟩ | ⟨id, rfl, ho, hk⟩
  · refine Contract.of_runs Try.func92 e92 k92 (by simp [c92]) ?_
    refine Runs.mix 3 ?_
    (refine Runs.of_step Orc.nothing 300 ?_; simp -implicitDefEqProofs only [BB, effR_some, effD_some, Int.reduceEq, Int.reduceNe, Int.reduceLT, Int.reduceLE, Int.reduceGT, Int.reduceGE, Nat.reduceEqDiff, Nat.reduceAdd, Nat.reduceMul, Nat.reduceLeDiff, Nat.reduceSub, Nat.reduceLT, Nat.reduceBEq, ↓reduceIte, reduceCtorEq, ← decide_not, okind, vpre, vpure, intBin, intPre, strBin, strPre, popTo, argSlots, fldV, fldAV, subCells, idxVV, idxAAV, idxSV, sliceV, sliceSV, boundV, szIs, storeOp, storeS, setRowV, eff, extV, buildV, splice, eqSV, fitsL, eqCells, eqCell, minmaxV, capV, binBV, nilCheckV, bytesV, V.cells, V.stays, Orc.nothing, c92])
    exact RetV.same rfl
  · refine Contract.of_runs Try.func92 e92 k92 (by simp [c92]) ?_
    refine Runs.mix 3 ?_
    have hc : (0 : Int) ≤ rows.length ∧ (rows.length : Int) ≤ rows.length := by omega
    (refine Runs.of_step Orc.nothing 300 ?_; simp -implicitDefEqProofs only [BB, effR_some, effD_some, Int.reduceEq, Int.reduceNe, Int.reduceLT, Int.reduceLE, Int.reduceGT, Int.reduceGE, Nat.reduceEqDiff, Nat.reduceAdd, Nat.reduceMul, Nat.reduceLeDiff, Nat.reduceSub, Nat.reduceLT, Nat.reduceBEq, ↓reduceIte, reduceCtorEq, ← decide_not, okind, vpre, vpure, intBin, intPre, strBin, strPre, popTo, argSlots, fldV, fldAV, subCells, idxVV, idxAAV, idxSV, sliceV, sliceSV, boundV, szIs, storeOp, storeS, setRowV, eff, extV, buildV, splice, eqSV, fitsL, eqCells, eqCell, minmaxV, capV, binBV, nilCheckV, bytesV, V.cells, V.stays, Orc.nothing, c92, ho, beq_self_eq_true, hc, Int.toNat_zero, Int.toNat_natCast, Nat.sub_zero])
    exact RetV.same rfl
theorem lastEnd_nil (l : List Nd) (into : Int) : lastEnd l into [] = into + 1 := rfl
theorem lastEnd_last {l : List Nd} {into : Int} {ks : List Int} (h : 0 < ks.length) : lastEnd l into ks = ks[ks.length - 1] + szI l (ks[ks.length - 1]).toNat := by
  have := lastEnd_take (l := l) (into := into) (ks := ks) (i := ks.length - 1) (by omega)
  rw [show ks.length - 1 + 1 = ks.length by omega, List.take_length] at this
  exact this
set_option maxRecDepth 100000 in
theorem places9_c (x : Ed) (l : List Nd) (hl : Fine l) (hb : isB l = true) (ha : x.into = -1 ∨ hasI l x.into = true) : PFun Try.prog 71 [encH x l] (encI (placesR l x.into)) := fun σ => by
  have hl1 := hl.1
  have hin : -1 ≤ x.into ∧ x.into ≤ 1000000000 := by
    rcases ha with h | h
    · omega
    · have := hasI_iff.1 h; omega
  refine Contract.of_runs Try.func71 e71 k71 (by simp [c71]) ?_
  refine Runs.mix 6 ?_
  (refine Runs.of_step Orc.nothing 300 ?_; simp -implicitDefEqProofs only [BB, Int.reduceEq, Int.reduceNe, Int.reduceLT, Int.reduceLE, Int.reduceGT, Int.reduceGE, Nat.reduceEqDiff, Nat.reduceAdd, Nat.reduceMul, Nat.reduceLeDiff, Nat.reduceSub, Nat.reduceLT, Nat.reduceBEq, ↓reduceIte, reduceCtorEq, ← decide_not, okind, vpre, vpure, intBin, intPre, strBin, strPre, popTo, argSlots, fldV, fldAV, subCells, idxVV, idxAAV, idxSV, sliceV, sliceSV, boundV, szIs, storeOp, storeS, setRowV, eff, extV, buildV, splice, eqSV, fitsL, eqCells, eqCell, minmaxV, capV, binBV, nilCheckV, bytesV, V.cells, V.stays, Orc.nothing, c71, encH, encNs_cells, encNs_stays])
  refine effR_new fun id1 σ1 s1 a1 f1 => ?_
  simp -implicitDefEqProofs only [BB, Int.reduceEq, Int.reduceNe, Int.reduceLT, Int.reduceLE, Int.reduceGT, Int.reduceGE, Nat.reduceEqDiff, Nat.reduceAdd, Nat.reduceMul, Nat.reduceLeDiff, Nat.reduceSub, Nat.reduceLT, Nat.reduceBEq, ↓reduceIte, reduceCtorEq, ← decide_not, okind, vpre, vpure, intBin, intPre, strBin, strPre, popTo, argSlots, fldV, fldAV, subCells, idxVV, idxAAV, idxSV, sliceV, sliceSV, boundV, szIs, storeOp, storeS, setRowV, eff, extV, buildV, splice, eqSV, fitsL, eqCells, eqCell, minmaxV, capV, binBV, nilCheckV, bytesV, V.cells, V.stays, a1, encNs_cells, encNs_stays]
  have hkl := kidsR_len l x.into
  have hkm := fun y (h : y ∈ kidsR l x.into) => kidsR_mem h
  refine Runs.call rfl rfl rfl (kids9_c l hl hb _ ha _) ?_
  rintro r σ2 ⟨hsub, hout⟩
  have hpe : placesR l x.into = kidsR l x.into ++ [lastEnd l x.into (kidsR l x.into)] := rfl
  rw [hpe]
  generalize kidsR l x.into = ks at *
  (refine Runs.of_step Orc.nothing 300 ?_; simp -implicitDefEqProofs only [BB, Int.reduceEq, Int.reduceNe, Int.reduceLT, Int.reduceLE, Int.reduceGT, Int.reduceGE, Nat.reduceEqDiff, Nat.reduceAdd, Nat.reduceMul, Nat.reduceLeDiff, Nat.reduceSub, Nat.reduceLT, Nat.reduceBEq, ↓reduceIte, reduceCtorEq, ← decide_not, okind, vpre, vpure, intBin, intPre, strBin, strPre, popTo, argSlots, fldV, fldAV, subCells, idxVV, idxAAV, idxSV, sliceV, sliceSV, boundV, szIs, storeOp, storeS, setRowV, eff, extV, buildV, splice, eqSV, fitsL, eqCells, eqCell, minmaxV, capV, binBV, nilCheckV, bytesV, V.cells, V.stays, Orc.nothing])
  have hkl2 : (ks.map vI).length ≤ 1000000000 := by rw [List.length_map]; omega
  refine Runs.pcall rfl rfl rfl (clip_c hout hkl2) ?_
  have a1' := hsub _ _ a1
  have n1 := hout.len
  rw [List.length_map] at n1
  have hout' := hout
  have hb2 : (ks.length + 1) * 9 ≤ 140737488355328 := by omega
  rcases hout with ⟨rfl, hr0⟩ | ⟨id, rfl, ho, hk⟩
  · have hk0 : ks = [] := by cases ks with | nil => rfl | cons a b => simp at hr0
    subst hk0
    (refine Runs.of_step Orc.nothing 300 ?_; simp -implicitDefEqProofs only [BB, Int.reduceEq, Int.reduceNe, Int.reduceLT, Int.reduceLE, Int.reduceGT, Int.reduceGE, Nat.reduceEqDiff, Nat.reduceAdd, Nat.reduceMul, Nat.reduceLeDiff, Nat.reduceSub, Nat.reduceLT, Nat.reduceBEq, ↓reduceIte, reduceCtorEq, ← decide_not, okind, vpre, vpure, intBin, intPre, strBin, strPre, popTo, argSlots, fldV, fldAV, subCells, idxVV, idxAAV, idxSV, sliceV, sliceSV, boundV, szIs, storeOp, storeS, setRowV, eff, extV, buildV, splice, eqSV, fitsL, eqCells, eqCell, minmaxV, capV, binBV, nilCheckV, bytesV, V.cells, V.stays, Orc.nothing, a1', encNs_cells, encNs_stays])
    refine ⟨inR_i64 (by omega) (by omega), ?_⟩
    refine effR_new fun id3 σ3 s3 a3 f3 => ?_
    obtain ⟨idA, hd, hdel⟩ := hout'.dst s3
    simp -implicitDefEqProofs only [BB, Int.reduceEq, Int.reduceNe, Int.reduceLT, Int.reduceLE, Int.reduceGT, Int.reduceGE, Nat.reduceEqDiff, Nat.reduceAdd, Nat.reduceMul, Nat.reduceLeDiff, Nat.reduceSub, Nat.reduceLT, Nat.reduceBEq, ↓reduceIte, reduceCtorEq, ← decide_not, okind, vpre, vpure, intBin, intPre, strBin, strPre, popTo, argSlots, fldV, fldAV, subCells, idxVV, idxAAV, idxSV, sliceV, sliceSV, boundV, szIs, storeOp, storeS, setRowV, eff, extV, buildV, splice, eqSV, fitsL, eqCells, eqCell, minmaxV, capV, binBV, nilCheckV, bytesV, V.cells, V.stays, hd, srcOne a3, List.length_map, hb2]
    refine effR_put fun id4 σ4 s4 a4 f4 => ?_
    simp -implicitDefEqProofs only [BB, Int.reduceEq, Int.reduceNe, Int.reduceLT, Int.reduceLE, Int.reduceGT, Int.reduceGE, Nat.reduceEqDiff, Nat.reduceAdd, Nat.reduceMul, Nat.reduceLeDiff, Nat.reduceSub, Nat.reduceLT, Nat.reduceBEq, ↓reduceIte, reduceCtorEq, ← decide_not, okind, vpre, vpure, intBin, intPre, strBin, strPre, popTo, argSlots, fldV, fldAV, subCells, idxVV, idxAAV, idxSV, sliceV, sliceSV, boundV, szIs, storeOp, storeS, setRowV, eff, extV, buildV, splice, eqSV, fitsL, eqCells, eqCell, minmaxV, capV, binBV, nilCheckV, bytesV, V.cells, V.stays]
    have hs3 := (s1.trans hsub).trans s3
    have hs4 := (hdel σ s1 σ3 hs3).trans s4
    exact (OutV.new (K := σ) (e := 3) (sz := 1) (n := 1) (rows := ([lastEnd l x.into []]).map vI) rfl (by rw [a4]; rfl) (hs3.none f4)).retv hs4 rfl
  · rw [List.length_map] at hout' ⊢
    (refine Runs.of_step Orc.nothing 300 ?_; simp -implicitDefEqProofs only [BB, Int.reduceEq, Int.reduceNe, Int.reduceLT, Int.reduceLE, Int.reduceGT, Int.reduceGE, Nat.reduceEqDiff, Nat.reduceAdd, Nat.reduceMul, Nat.reduceLeDiff, Nat.reduceSub, Nat.reduceLT, Nat.reduceBEq, ↓reduceIte, reduceCtorEq, ← decide_not, okind, vpre, vpure, intBin, intPre, strBin, strPre, popTo, argSlots, fldV, fldAV, subCells, idxVV, idxAAV, idxSV, sliceV, sliceSV, boundV, szIs, storeOp, storeS, setRowV, eff, extV, buildV, splice, eqSV, fitsL, eqCells, eqCell, minmaxV, capV, binBV, nilCheckV, bytesV, V.cells, V.stays, Orc.nothing, a1', encNs_cells, encNs_stays])
    refine ⟨inR_i64 (by omega) (by omega), And.intro (fun h => ?gA) (fun h => ?gB)⟩
    case' gA =>
      have hpos : 0 < ks.length := by omega
      have hlt : ks.length - 1 < ks.length := by omega
      obtain ⟨g1, g2⟩ := hkm _ (List.getElem_mem hlt)
      have hsz := szI_bound hb g2
      have hse := szI_eq g2
      have e1 : (ks.length : Int) - 1 = ((ks.length - 1 : Nat) : Int) := by omega
      have hle := lastEnd_last (l := l) (into := x.into) hpos
      have hrow : (ks.map vI)[ks.length - 1]? = some (vI ks[ks.length - 1]) := by simp [hlt]
      have hc : (0 : Int) ≤ ((ks.length - 1 : Nat) : Int) ∧ ((ks.length - 1 : Nat) : Int) < ks.length := by omega
      generalize hke : ks[ks.length - 1] = q at *
      simp -implicitDefEqProofs only [BB, Int.reduceEq, Int.reduceNe, Int.reduceLT, Int.reduceLE, Int.reduceGT, Int.reduceGE, Nat.reduceEqDiff, Nat.reduceAdd, Nat.reduceMul, Nat.reduceLeDiff, Nat.reduceSub, Nat.reduceLT, Nat.reduceBEq, ↓reduceIte, reduceCtorEq, ← decide_not, okind, vpre, vpure, intBin, intPre, strBin, strPre, popTo, argSlots, fldV, fldAV, subCells, idxVV, idxAAV, idxSV, sliceV, sliceSV, boundV, szIs, storeOp, storeS, setRowV, eff, extV, buildV, splice, eqSV, fitsL, eqCells, eqCell, minmaxV, capV, binBV, nilCheckV, bytesV, V.cells, V.stays, e1, ho, hc, hrow, Int.toNat_natCast, a1', idxAV_encNsI g1 g2, Nd.cells]
      rw [← hse]
      refine ⟨inR_i64 (by omega) (by omega), inR_i64 (by omega) (by omega), inR_i64 (by omega) (by omega), ?_⟩
      rw [← hle]
    case' gB =>
      have hk0 : ks = [] := List.eq_nil_of_length_eq_zero (by omega)
      have hle : x.into + 1 = lastEnd l x.into ks := by rw [hk0]; rfl
      rw [hle]
    case gA | gB =>
      generalize lastEnd l x.into ks = le at *
      refine effR_new fun id3 σ3 s3 a3 f3 => ?_
      obtain ⟨idA, hd, hdel⟩ := hout'.dst s3
      simp -implicitDefEqProofs only [BB, Int.reduceEq, Int.reduceNe, Int.reduceLT, Int.reduceLE, Int.reduceGT, Int.reduceGE, Nat.reduceEqDiff, Nat.reduceAdd, Nat.reduceMul, Nat.reduceLeDiff, Nat.reduceSub, Nat.reduceLT, Nat.reduceBEq, ↓reduceIte, reduceCtorEq, ← decide_not, okind, vpre, vpure, intBin, intPre, strBin, strPre, popTo, argSlots, fldV, fldAV, subCells, idxVV, idxAAV, idxSV, sliceV, sliceSV, boundV, szIs, storeOp, storeS, setRowV, eff, extV, buildV, splice, eqSV, fitsL, eqCells, eqCell, minmaxV, capV, binBV, nilCheckV, bytesV, V.cells, V.stays, hd, srcOne a3, List.length_map, hb2]
      refine effR_put fun id4 σ4 s4 a4 f4 => ?_
      simp -implicitDefEqProofs only [BB, Int.reduceEq, Int.reduceNe, Int.reduceLT, Int.reduceLE, Int.reduceGT, Int.reduceGE, Nat.reduceEqDiff, Nat.reduceAdd, Nat.reduceMul, Nat.reduceLeDiff, Nat.reduceSub, Nat.reduceLT, Nat.reduceBEq, ↓reduceIte, reduceCtorEq, ← decide_not, okind, vpre, vpure, intBin, intPre, strBin, strPre, popTo, argSlots, fldV, fldAV, subCells, idxVV, idxAAV, idxSV, sliceV, sliceSV, boundV, szIs, storeOp, storeS, setRowV, eff, extV, buildV, splice, eqSV, fitsL, eqCells, eqCell, minmaxV, capV, binBV, nilCheckV, bytesV, V.cells, V.stays]
      have hs3 := (s1.trans hsub).trans s3
      have hs4 := (hdel σ s1 σ3 hs3).trans s4
      exact (OutV.new (K := σ) (e := 3) (sz := 1) (n := ks.length + 1) (rows := (ks ++ [le]).map vI) (by simp) (by rw [a4]; simp) (hs3.none f4)).retv hs4 rfl
end Go.Vc
namespace Go.Vc
open Go.Proofs
def goneR (l : List Nd) (into pos many : Int) : Int × Int × Bool :=
  if into ≠ -1 ∧ blockR l into = false then (0, 0, false)
  else if idxI pos (placesR l into) 0 < 0 ∨ many < 0 ∨ many ≥ (placesR l into).length - idxI pos (placesR l into) 0 then (0, 0, false)
  else (pos, ((placesR l into)[(idxI pos (placesR l into) 0 + many).toNat]?).getD 0, true)
theorem idxI_range (a : Int) : ∀ (p : List Int) (i : Nat), idxI a p i = -1 ∨ (i : Int) ≤ idxI a p i ∧ idxI a p i < i + p.length
  | [], _ => .inl rfl
  | q :: r, i => by
    rw [idxI]
    split
    · right; simp; omega
    · rcases idxI_range a r (i + 1) with h | ⟨h1, h2⟩
      · exact .inl h
      · right; simp only [List.length_cons]; omega
theorem placesR_len (l : List Nd) (into : Int) : (placesR l into).length ≤ l.length + 1 := by
  have := kidsR_len l into
  simp only [placesR, List.length_append, List.length_cons, List.length_nil]; omega
set_option maxRecDepth 100000 in
theorem gone_c (x : Ed) (l : List Nd) (hl : Fine l) (hb : isB l = true) : PFun Try.prog 45 [encH x l] (.tup [vI (goneR l x.into x.pos x.many).1, vI (goneR l x.into x.pos x.many).2.1, .bool (goneR l x.into x.pos x.many).2.2]) := fun σ => by
  have hl1 := hl.1
  refine Contract.of_runs Try.func45 e45 k45 (by simp [c45]) ?_
  refine Runs.mix 7 ?_
  (refine Runs.of_step Orc.nothing 300 ?_; simp -implicitDefEqProofs only [BB, Int.reduceEq, Int.reduceNe, Int.reduceLT, Int.reduceLE, Int.reduceGT, Int.reduceGE, Nat.reduceEqDiff, Nat.reduceAdd, Nat.reduceMul, Nat.reduceLeDiff, Nat.reduceSub, Nat.reduceLT, Nat.reduceBEq, ↓reduceIte, reduceCtorEq, ← decide_not, okind, vpre, vpure, intBin, intPre, strBin, strPre, popTo, argSlots, fldV, fldAV, subCells, idxVV, idxAAV, idxSV, sliceV, sliceSV, boundV, szIs, storeOp, storeS, setRowV, eff, extV, buildV, splice, eqSV, fitsL, eqCells, eqCell, minmaxV, capV, binBV, nilCheckV, bytesV, V.cells, V.stays, Orc.nothing, c45, encH, encNs_cells, encNs_stays])
  refine effR_new fun id1 σ1 s1 a1 f1 => ?_
  simp -implicitDefEqProofs only [BB, Int.reduceEq, Int.reduceNe, Int.reduceLT, Int.reduceLE, Int.reduceGT, Int.reduceGE, Nat.reduceEqDiff, Nat.reduceAdd, Nat.reduceMul, Nat.reduceLeDiff, Nat.reduceSub, Nat.reduceLT, Nat.reduceBEq, ↓reduceIte, reduceCtorEq, ← decide_not, okind, vpre, vpure, intBin, intPre, strBin, strPre, popTo, argSlots, fldV, fldAV, subCells, idxVV, idxAAV, idxSV, sliceV, sliceSV, boundV, szIs, storeOp, storeS, setRowV, eff, extV, buildV, splice, eqSV, fitsL, eqCells, eqCell, minmaxV, capV, binBV, nilCheckV, bytesV, V.cells, V.stays, a1, encNs_cells, encNs_stays]
  refine And.intro (fun h => ?gA) (fun h => ?gB)
  case' gA =>
    refine Runs.pcall rfl rfl rfl (block9_c x l _ _) ?_
    cases hbk : blockR l x.into
  case' gA.false =>
    (refine Runs.of_step Orc.nothing 300 ?_; simp -implicitDefEqProofs only [BB, Int.reduceEq, Int.reduceNe, Int.reduceLT, Int.reduceLE, Int.reduceGT, Int.reduceGE, Nat.reduceEqDiff, Nat.reduceAdd, Nat.reduceMul, Nat.reduceLeDiff, Nat.reduceSub, Nat.reduceLT, Nat.reduceBEq, ↓reduceIte, reduceCtorEq, ← decide_not, okind, vpre, vpure, intBin, intPre, strBin, strPre, popTo, argSlots, fldV, fldAV, subCells, idxVV, idxAAV, idxSV, sliceV, sliceSV, boundV, szIs, storeOp, storeS, setRowV, eff, extV, buildV, splice, eqSV, fitsL, eqCells, eqCell, minmaxV, capV, binBV, nilCheckV, bytesV, V.cells, V.stays, Orc.nothing, hbk])
    refine RetV.pure s1 ?_
    rw [goneR, if_pos ⟨by simpa using h, hbk⟩]
  case' gA.true =>
    (refine Runs.of_step Orc.nothing 300 ?_; simp -implicitDefEqProofs only [BB, Int.reduceEq, Int.reduceNe, Int.reduceLT, Int.reduceLE, Int.reduceGT, Int.reduceGE, Nat.reduceEqDiff, Nat.reduceAdd, Nat.reduceMul, Nat.reduceLeDiff, Nat.reduceSub, Nat.reduceLT, Nat.reduceBEq, ↓reduceIte, reduceCtorEq, ← decide_not, okind, vpre, vpure, intBin, intPre, strBin, strPre, popTo, argSlots, fldV, fldAV, subCells, idxVV, idxAAV, idxSV, sliceV, sliceSV, boundV, szIs, storeOp, storeS, setRowV, eff, extV, buildV, splice, eqSV, fitsL, eqCells, eqCell, minmaxV, capV, binBV, nilCheckV, bytesV, V.cells, V.stays, Orc.nothing, hbk, a1, encNs_cells, encNs_stays])
    have hin : x.into = -1 ∨ hasI l x.into = true := by
      simp only [blockR, Bool.and_eq_true] at hbk
      exact .inr hbk.1
    have hnb : ¬ (x.into ≠ -1 ∧ blockR l x.into = false) := by simp [hbk]
  case' gB =>
    have hin : x.into = -1 ∨ hasI l x.into = true := .inl (by omega)
    have hnb : ¬ (x.into ≠ -1 ∧ blockR l x.into = false) := by omega
  case gA.true | gB =>
    have hG : goneR l x.into x.pos x.many = if idxI x.pos (placesR l x.into) 0 < 0 ∨ x.many < 0 ∨ x.many ≥ (placesR l x.into).length - idxI x.pos (placesR l x.into) 0 then (0, 0, false)
      else (x.pos, ((placesR l x.into)[(idxI x.pos (placesR l x.into) 0 + x.many).toNat]?).getD 0, true) := by
      rw [goneR, if_neg hnb]
    rw [hG]
    have hpl := placesR_len l x.into
    refine Runs.pcall rfl rfl rfl (places9_c x l hl hb hin _) ?_
    generalize placesR l x.into = p at *
    (refine Runs.of_step Orc.nothing 300 ?_; simp -implicitDefEqProofs only [BB, Int.reduceEq, Int.reduceNe, Int.reduceLT, Int.reduceLE, Int.reduceGT, Int.reduceGE, Nat.reduceEqDiff, Nat.reduceAdd, Nat.reduceMul, Nat.reduceLeDiff, Nat.reduceSub, Nat.reduceLT, Nat.reduceBEq, ↓reduceIte, reduceCtorEq, ← decide_not, okind, vpre, vpure, intBin, intPre, strBin, strPre, popTo, argSlots, fldV, fldAV, subCells, idxVV, idxAAV, idxSV, sliceV, sliceSV, boundV, szIs, storeOp, storeS, setRowV, eff, extV, buildV, splice, eqSV, fitsL, eqCells, eqCell, minmaxV, capV, binBV, nilCheckV, bytesV, V.cells, V.stays, Orc.nothing, a1, encNs_cells, encNs_stays])
    refine Runs.pcall rfl rfl rfl (index_c p (by omega) _ _) ?_
    have hr := idxI_range x.pos p 0
    generalize idxI x.pos p 0 = k at *
    (refine Runs.of_step Orc.nothing 300 ?_; simp -implicitDefEqProofs only [BB, Int.reduceEq, Int.reduceNe, Int.reduceLT, Int.reduceLE, Int.reduceGT, Int.reduceGE, Nat.reduceEqDiff, Nat.reduceAdd, Nat.reduceMul, Nat.reduceLeDiff, Nat.reduceSub, Nat.reduceLT, Nat.reduceBEq, ↓reduceIte, reduceCtorEq, ← decide_not, okind, vpre, vpure, intBin, intPre, strBin, strPre, popTo, argSlots, fldV, fldAV, subCells, idxVV, idxAAV, idxSV, sliceV, sliceSV, boundV, szIs, storeOp, storeS, setRowV, eff, extV, buildV, splice, eqSV, fitsL, eqCells, eqCell, minmaxV, capV, binBV, nilCheckV, bytesV, V.cells, V.stays, Orc.nothing, a1, encNs_cells, encNs_stays, lenV_encI])
    refine And.intro (fun h1 => And.intro (fun h2 => ⟨inR_i64 (by omega) (by omega), And.intro (fun h3 => ?r3) (fun h3 => ⟨inR_i64 (by omega) (by omega), ?r4⟩)⟩) (fun h2 => ?r2)) (fun h1 => ?r1)
    case r1 =>
      refine RetV.pure s1 ?_
      rw [if_pos (.inl h1)]
    case r2 =>
      refine RetV.pure s1 ?_
      rw [if_pos (.inr (.inl h2))]
    case r3 =>
      refine RetV.pure s1 ?_
      rw [if_pos (.inr (.inr h3))]
    case r4 =>
      have hlt : (k + x.many).toNat < p.length := by omega
      have e2 : k + x.many = (((k + x.many).toNat : Nat) : Int) := by omega
      rw [if_neg (by omega)]
      have hx := fun σ => idxAV_encI (σ := σ) hlt
      rw [← e2] at hx
      simp -implicitDefEqProofs only [BB, Int.reduceEq, Int.reduceNe, Int.reduceLT, Int.reduceLE, Int.reduceGT, Int.reduceGE, Nat.reduceEqDiff, Nat.reduceAdd, Nat.reduceMul, Nat.reduceLeDiff, Nat.reduceSub, Nat.reduceLT, Nat.reduceBEq, ↓reduceIte, reduceCtorEq, ← decide_not, okind, vpre, vpure, intBin, intPre, strBin, strPre, popTo, argSlots, fldV, fldAV, subCells, idxVV, idxAAV, idxSV, sliceV, sliceSV, boundV, szIs, storeOp, storeS, setRowV, eff, extV, buildV, splice, eqSV, fitsL, eqCells, eqCell, minmaxV, capV, binBV, nilCheckV, bytesV, V.cells, V.stays, hx]
      refine RetV.pure s1 ?_
      simp [hlt]
end Go.Vc
namespace Go.Vc
open Go.Proofs
theorem upd_self {σ : Store} {id : Nat} {o : Ob} (h : σ id = some o) : upd σ id o = σ := by
  funext i
  by_cases e : i = id
  · rw [e, upd_same, h]
  · rw [upd_ne e]
/-- of a size that can be gone through, and made anew -/
def Sml (l : List Nd) : Prop := l.length ≤ 10000 ∧ ∀ x ∈ l, x.words.length ≤ 1000000000
theorem Sml.fine {l : List Nd} (h : Sml l) : Fine l := ⟨h.1, fun x hx => by have := h.2 x hx; omega⟩
set_option maxRecDepth 100000 in
theorem clone_c (l : List Nd) (hl : l.length ≤ 10000) (σ : Store) : Contract Try.prog 74 [encNs l] σ fun r σ' => SubStore σ σ' ∧ OutV σ σ' 28 20 r (l.map encN) := by
  refine Contract.of_runs Try.func74 e74 k74 (by simp [c74]) ?_
  refine Runs.mix 3 ?_
  (refine Runs.of_step Orc.nothing 8 ?_; simp -implicitDefEqProofs only [BB, Int.reduceEq, Int.reduceNe, Int.reduceLT, Int.reduceLE, Int.reduceGT, Int.reduceGE, Nat.reduceEqDiff, Nat.reduceAdd, Nat.reduceMul, Nat.reduceLeDiff, Nat.reduceSub, Nat.reduceLT, Nat.reduceBEq, ↓reduceIte, reduceCtorEq, ← decide_not, okind, vpre, vpure, intBin, intPre, strBin, strPre, popTo, argSlots, fldV, fldAV, subCells, idxVV, idxAAV, idxSV, sliceV, sliceSV, boundV, szIs, storeOp, storeS, setRowV, eff, extV, buildV, splice, eqSV, fitsL, eqCells, eqCell, minmaxV, capV, binBV, nilCheckV, bytesV, V.cells, V.stays, s_zero, Orc.nothing, c74])
  refine Runs.nilS rfl rfl rfl fun b hb => ?_
  cases b
  · (refine Runs.of_step Orc.nothing 300 ?_; simp -implicitDefEqProofs only [BB, Int.reduceEq, Int.reduceNe, Int.reduceLT, Int.reduceLE, Int.reduceGT, Int.reduceGE, Nat.reduceEqDiff, Nat.reduceAdd, Nat.reduceMul, Nat.reduceLeDiff, Nat.reduceSub, Nat.reduceLT, Nat.reduceBEq, ↓reduceIte, reduceCtorEq, ← decide_not, okind, vpre, vpure, intBin, intPre, strBin, strPre, popTo, argSlots, fldV, fldAV, subCells, idxVV, idxAAV, idxSV, sliceV, sliceSV, boundV, szIs, storeOp, storeS, setRowV, eff, extV, buildV, splice, eqSV, fitsL, eqCells, eqCell, minmaxV, capV, binBV, nilCheckV, bytesV, V.cells, V.stays, Orc.nothing])
    refine effR_new fun id1 σ1 s1 a1 f1 => ?_
    obtain ⟨idA, hd, hdel⟩ := (OutV.new (K := σ) (e := 28) (sz := 20) (n := 0) (rows := []) rfl a1 f1).dst (SubStore.refl _)
    have hsrc : ∀ σ, srcRows σ 20 (encNs l) = some (l.map encN) := fun σ => by simp [encNs, srcRows]
    have hb2 : l.length * 177 ≤ 140737488355328 := by omega
    simp -implicitDefEqProofs only [BB, Int.reduceEq, Int.reduceNe, Int.reduceLT, Int.reduceLE, Int.reduceGT, Int.reduceGE, Nat.reduceEqDiff, Nat.reduceAdd, Nat.reduceMul, Nat.reduceLeDiff, Nat.reduceSub, Nat.reduceLT, Nat.reduceBEq, ↓reduceIte, reduceCtorEq, ← decide_not, okind, vpre, vpure, intBin, intPre, strBin, strPre, popTo, argSlots, fldV, fldAV, subCells, idxVV, idxAAV, idxSV, sliceV, sliceSV, boundV, szIs, storeOp, storeS, setRowV, eff, extV, buildV, splice, eqSV, fitsL, eqCells, eqCell, minmaxV, capV, binBV, nilCheckV, bytesV, V.cells, V.stays, hd, hsrc, List.length_map, hb2]
    refine effR_put fun id2 σ2 s2 a2 f2 => ?_
    have hs2 := (hdel σ (SubStore.refl _) σ1 s1).trans s2
    simp -implicitDefEqProofs only [BB, Int.reduceEq, Int.reduceNe, Int.reduceLT, Int.reduceLE, Int.reduceGT, Int.reduceGE, Nat.reduceEqDiff, Nat.reduceAdd, Nat.reduceMul, Nat.reduceLeDiff, Nat.reduceSub, Nat.reduceLT, Nat.reduceBEq, ↓reduceIte, reduceCtorEq, ← decide_not, okind, vpre, vpure, intBin, intPre, strBin, strPre, popTo, argSlots, fldV, fldAV, subCells, idxVV, idxAAV, idxSV, sliceV, sliceSV, boundV, szIs, storeOp, storeS, setRowV, eff, extV, buildV, splice, eqSV, fitsL, eqCells, eqCell, minmaxV, capV, binBV, nilCheckV, bytesV, V.cells, V.stays]
    refine ⟨_, _, SubStore.refl _, Wk.refl (SubStore.refl _) _, hs2, OutV.new (by simp) a2 (s1.none f2)⟩
  · (refine Runs.of_step Orc.nothing 300 ?_; simp -implicitDefEqProofs only [BB, Int.reduceEq, Int.reduceNe, Int.reduceLT, Int.reduceLE, Int.reduceGT, Int.reduceGE, Nat.reduceEqDiff, Nat.reduceAdd, Nat.reduceMul, Nat.reduceLeDiff, Nat.reduceSub, Nat.reduceLT, Nat.reduceBEq, ↓reduceIte, reduceCtorEq, ← decide_not, okind, vpre, vpure, intBin, intPre, strBin, strPre, popTo, argSlots, fldV, fldAV, subCells, idxVV, idxAAV, idxSV, sliceV, sliceSV, boundV, szIs, storeOp, storeS, setRowV, eff, extV, buildV, splice, eqSV, fitsL, eqCells, eqCell, minmaxV, capV, binBV, nilCheckV, bytesV, V.cells, V.stays, Orc.nothing])
    refine ⟨_, _, SubStore.refl _, Wk.refl (SubStore.refl _) _, SubStore.refl _, ?_⟩
    have : l.map encN = [] := hb rfl
    rw [this]
    exact OutV.start
set_option maxRecDepth 100000 in
theorem cloneI_c (l : List Int) (hl : l.length ≤ 1000000000) : PFun Try.prog 75 [encI l] (encI l) := fun σ => by
  refine Contract.of_runs Try.func75 e75 k75 (by simp [c75]) ?_
  refine Runs.mix 3 ?_
  (refine Runs.of_step Orc.nothing 8 ?_; simp -implicitDefEqProofs only [BB, Int.reduceEq, Int.reduceNe, Int.reduceLT, Int.reduceLE, Int.reduceGT, Int.reduceGE, Nat.reduceEqDiff, Nat.reduceAdd, Nat.reduceMul, Nat.reduceLeDiff, Nat.reduceSub, Nat.reduceLT, Nat.reduceBEq, ↓reduceIte, reduceCtorEq, ← decide_not, okind, vpre, vpure, intBin, intPre, strBin, strPre, popTo, argSlots, fldV, fldAV, subCells, idxVV, idxAAV, idxSV, sliceV, sliceSV, boundV, szIs, storeOp, storeS, setRowV, eff, extV, buildV, splice, eqSV, fitsL, eqCells, eqCell, minmaxV, capV, binBV, nilCheckV, bytesV, V.cells, V.stays, s_zero, Orc.nothing, c75])
  refine Runs.nilS rfl rfl rfl fun b hb => ?_
  cases b
  · (refine Runs.of_step Orc.nothing 300 ?_; simp -implicitDefEqProofs only [BB, Int.reduceEq, Int.reduceNe, Int.reduceLT, Int.reduceLE, Int.reduceGT, Int.reduceGE, Nat.reduceEqDiff, Nat.reduceAdd, Nat.reduceMul, Nat.reduceLeDiff, Nat.reduceSub, Nat.reduceLT, Nat.reduceBEq, ↓reduceIte, reduceCtorEq, ← decide_not, okind, vpre, vpure, intBin, intPre, strBin, strPre, popTo, argSlots, fldV, fldAV, subCells, idxVV, idxAAV, idxSV, sliceV, sliceSV, boundV, szIs, storeOp, storeS, setRowV, eff, extV, buildV, splice, eqSV, fitsL, eqCells, eqCell, minmaxV, capV, binBV, nilCheckV, bytesV, V.cells, V.stays, Orc.nothing])
    refine effR_new fun id1 σ1 s1 a1 f1 => ?_
    obtain ⟨idA, hd, hdel⟩ := (OutV.new (K := σ) (e := 3) (sz := 1) (n := 0) (rows := []) rfl a1 f1).dst (SubStore.refl _)
    have hb2 : l.length * 9 ≤ 140737488355328 := by omega
    simp -implicitDefEqProofs only [BB, Int.reduceEq, Int.reduceNe, Int.reduceLT, Int.reduceLE, Int.reduceGT, Int.reduceGE, Nat.reduceEqDiff, Nat.reduceAdd, Nat.reduceMul, Nat.reduceLeDiff, Nat.reduceSub, Nat.reduceLT, Nat.reduceBEq, ↓reduceIte, reduceCtorEq, ← decide_not, okind, vpre, vpure, intBin, intPre, strBin, strPre, popTo, argSlots, fldV, fldAV, subCells, idxVV, idxAAV, idxSV, sliceV, sliceSV, boundV, szIs, storeOp, storeS, setRowV, eff, extV, buildV, splice, eqSV, fitsL, eqCells, eqCell, minmaxV, capV, binBV, nilCheckV, bytesV, V.cells, V.stays, hd, srcRows_encI, List.length_map, hb2]
    refine effR_put fun id2 σ2 s2 a2 f2 => ?_
    have hs2 := (hdel σ (SubStore.refl _) σ1 s1).trans s2
    simp -implicitDefEqProofs only [BB, Int.reduceEq, Int.reduceNe, Int.reduceLT, Int.reduceLE, Int.reduceGT, Int.reduceGE, Nat.reduceEqDiff, Nat.reduceAdd, Nat.reduceMul, Nat.reduceLeDiff, Nat.reduceSub, Nat.reduceLT, Nat.reduceBEq, ↓reduceIte, reduceCtorEq, ← decide_not, okind, vpre, vpure, intBin, intPre, strBin, strPre, popTo, argSlots, fldV, fldAV, subCells, idxVV, idxAAV, idxSV, sliceV, sliceSV, boundV, szIs, storeOp, storeS, setRowV, eff, extV, buildV, splice, eqSV, fitsL, eqCells, eqCell, minmaxV, capV, binBV, nilCheckV, bytesV, V.cells, V.stays]
    exact (OutV.new (K := σ) (e := 3) (sz := 1) (n := l.length) (rows := l.map vI) (by simp) a2 (s1.none f2)).retv hs2 rfl
  · (refine Runs.of_step Orc.nothing 300 ?_; simp -implicitDefEqProofs only [BB, Int.reduceEq, Int.reduceNe, Int.reduceLT, Int.reduceLE, Int.reduceGT, Int.reduceGE, Nat.reduceEqDiff, Nat.reduceAdd, Nat.reduceMul, Nat.reduceLeDiff, Nat.reduceSub, Nat.reduceLT, Nat.reduceBEq, ↓reduceIte, reduceCtorEq, ← decide_not, okind, vpre, vpure, intBin, intPre, strBin, strPre, popTo, argSlots, fldV, fldAV, subCells, idxVV, idxAAV, idxSV, sliceV, sliceSV, boundV, szIs, storeOp, storeS, setRowV, eff, extV, buildV, splice, eqSV, fitsL, eqCells, eqCell, minmaxV, capV, binBV, nilCheckV, bytesV, V.cells, V.stays, Orc.nothing])
    have : l.map vI = [] := hb rfl
    exact (OutV.start (K := σ) (σ := σ) (e := 3) (sz := 1)).retv (SubStore.refl _) (by rw [encI, this])
set_option maxRecDepth 100000 in
theorem own9_o (l : List Nd) (hl : Sml l) (σ : Store) : Contract Try.prog 47 [encNs l] σ fun r σ' => SubStore σ σ' ∧ OutV σ σ' 28 20 r (l.map encN) := by
  obtain ⟨hl1, hl2⟩ := hl
  refine Contract.of_runs Try.func47 e47 k47 (by simp [c47]) ?_
  refine Runs.mix 10 ?_
  (refine Runs.of_step Orc.nothing 300 ?_; simp -implicitDefEqProofs only [BB, Int.reduceEq, Int.reduceNe, Int.reduceLT, Int.reduceLE, Int.reduceGT, Int.reduceGE, Nat.reduceEqDiff, Nat.reduceAdd, Nat.reduceMul, Nat.reduceLeDiff, Nat.reduceSub, Nat.reduceLT, Nat.reduceBEq, ↓reduceIte, reduceCtorEq, ← decide_not, okind, vpre, vpure, intBin, intPre, strBin, strPre, popTo, argSlots, fldV, fldAV, subCells, idxVV, idxAAV, idxSV, sliceV, sliceSV, boundV, szIs, storeOp, storeS, setRowV, eff, extV, buildV, splice, eqSV, fitsL, eqCells, eqCell, minmaxV, capV, binBV, nilCheckV, bytesV, V.cells, V.stays, Orc.nothing, c47])
  refine Runs.call rfl rfl rfl (clone_c l hl1 _) ?_
  rintro r σ1 ⟨hsub, hout⟩
  have hlen := hout.len
  rw [List.length_map] at hlen
  (refine Runs.of_step Orc.nothing 300 ?_; simp -implicitDefEqProofs only [BB, Int.reduceEq, Int.reduceNe, Int.reduceLT, Int.reduceLE, Int.reduceGT, Int.reduceGE, Nat.reduceEqDiff, Nat.reduceAdd, Nat.reduceMul, Nat.reduceLeDiff, Nat.reduceSub, Nat.reduceLT, Nat.reduceBEq, ↓reduceIte, reduceCtorEq, ← decide_not, okind, vpre, vpure, intBin, intPre, strBin, strPre, popTo, argSlots, fldV, fldAV, subCells, idxVV, idxAAV, idxSV, sliceV, sliceSV, boundV, szIs, storeOp, storeS, setRowV, eff, extV, buildV, splice, eqSV, fitsL, eqCells, eqCell, minmaxV, capV, binBV, nilCheckV, bytesV, V.cells, V.stays, Orc.nothing, hlen])
  refine Runs.loop (fun m st => ∃ (i : Nat), i ≤ l.length ∧ m = l.length - i ∧ st.σ = σ1 ∧ st.s 3 = r ∧ st.s 8 = vI l.length ∧ st.s 9 = vI i) l.length ?_ ?_
  · exact ⟨0, by omega, rfl, rfl, rfl, rfl, rfl⟩
  · rintro m ⟨s, σ'⟩ ⟨i, hi, rfl, hσ, h3, h8, h9⟩
    simp only at hσ h3 h8 h9
    subst hσ
    refine Runs.mix 10 ?_
    have hend : i = l.length → RetV r σ' fun r σ' => SubStore σ σ' ∧ OutV σ σ' 28 20 r (l.map encN) := fun _ =>
      ⟨_, _, SubStore.refl _, Wk.refl (SubStore.refl _) _, hsub, hout⟩
    have hout' := hout
    rcases hout' with ⟨rfl, hr0⟩ | ⟨id, rfl, ho, hk⟩
    · have hl0 : l = [] := by cases l with | nil => rfl | cons a b => simp at hr0
      subst hl0
      (refine Runs.of_step Orc.nothing 300 ?_; simp -implicitDefEqProofs only [BB, Int.reduceEq, Int.reduceNe, Int.reduceLT, Int.reduceLE, Int.reduceGT, Int.reduceGE, Nat.reduceEqDiff, Nat.reduceAdd, Nat.reduceMul, Nat.reduceLeDiff, Nat.reduceSub, Nat.reduceLT, Nat.reduceBEq, ↓reduceIte, reduceCtorEq, ← decide_not, okind, vpre, vpure, intBin, intPre, strBin, strPre, popTo, argSlots, fldV, fldAV, subCells, idxVV, idxAAV, idxSV, sliceV, sliceSV, boundV, szIs, storeOp, storeS, setRowV, eff, extV, buildV, splice, eqSV, fitsL, eqCells, eqCell, minmaxV, capV, binBV, nilCheckV, bytesV, V.cells, V.stays, Orc.nothing, h3, h8, h9])
      exact ⟨fun h => by simp at h; omega, fun _ => hend (by simpa using hi)⟩
    · rw [List.length_map] at h3 hend
      (refine Runs.of_step Orc.nothing 40 ?_; simp -implicitDefEqProofs only [BB, Int.reduceEq, Int.reduceNe, Int.reduceLT, Int.reduceLE, Int.reduceGT, Int.reduceGE, Nat.reduceEqDiff, Nat.reduceAdd, Nat.reduceMul, Nat.reduceLeDiff, Nat.reduceSub, Nat.reduceLT, Nat.reduceBEq, ↓reduceIte, reduceCtorEq, ← decide_not, okind, vpre, vpure, intBin, intPre, strBin, strPre, popTo, argSlots, fldV, fldAV, subCells, idxVV, idxAAV, idxSV, sliceV, sliceSV, boundV, szIs, storeOp, storeS, setRowV, eff, extV, buildV, splice, eqSV, fitsL, eqCells, eqCell, minmaxV, capV, binBV, nilCheckV, bytesV, V.cells, V.stays, s_zero, Orc.nothing, h3, h8, h9])
      refine And.intro (fun h => ?_) (fun h => ?_)
      · have hlt : i < l.length := by omega
        have hrow : (l.map encN)[i]? = some (encN l[i]) := by simp [hlt]
        have hset : (l.map encN).set i (encN l[i]) = l.map encN := by
          have : (l.map encN)[i]'(by simpa using hlt) = encN l[i] := by simp
          rw [← this, List.set_getElem_self]
        have hc : (0 : Int) ≤ (i : Int) ∧ (i : Int) < l.length := by omega
        have hw := hl2 _ (List.getElem_mem hlt)
        generalize hxe : l[i] = x at *
        have hrow' : (l.map encN)[i]? = some (.agg x.cells) := hrow
        simp -implicitDefEqProofs only [BB, Int.reduceEq, Int.reduceNe, Int.reduceLT, Int.reduceLE, Int.reduceGT, Int.reduceGE, Nat.reduceEqDiff, Nat.reduceAdd, Nat.reduceMul, Nat.reduceLeDiff, Nat.reduceSub, Nat.reduceLT, Nat.reduceBEq, ↓reduceIte, reduceCtorEq, ← decide_not, okind, vpre, vpure, intBin, intPre, strBin, strPre, popTo, argSlots, fldV, fldAV, subCells, idxVV, idxAAV, idxSV, sliceV, sliceSV, boundV, szIs, storeOp, storeS, setRowV, eff, extV, buildV, splice, eqSV, fitsL, eqCells, eqCell, minmaxV, capV, binBV, nilCheckV, bytesV, V.cells, V.stays, ho, hc, hrow', Nd.cells, h3, h8, h9, Int.toNat_natCast, s_zero]
        refine Runs.pcall rfl rfl rfl (cloneI_c x.words hw _) ?_
        have hset' := hset
        simp only [encN, Nd.cells, encI] at hset'
        (refine Runs.of_step Orc.nothing 300 ?_; simp -implicitDefEqProofs only [BB, Int.reduceEq, Int.reduceNe, Int.reduceLT, Int.reduceLE, Int.reduceGT, Int.reduceGE, Nat.reduceEqDiff, Nat.reduceAdd, Nat.reduceMul, Nat.reduceLeDiff, Nat.reduceSub, Nat.reduceLT, Nat.reduceBEq, ↓reduceIte, reduceCtorEq, ← decide_not, okind, vpre, vpure, intBin, intPre, strBin, strPre, popTo, argSlots, fldV, fldAV, subCells, idxVV, idxAAV, idxSV, sliceV, sliceSV, boundV, szIs, storeOp, storeS, setRowV, eff, extV, buildV, splice, eqSV, fitsL, eqCells, eqCell, minmaxV, capV, binBV, nilCheckV, bytesV, V.cells, V.stays, Orc.nothing, ho, hc, hrow', Nd.cells, encI, hset', upd_self ho, h3, h8, h9, Int.toNat_natCast])
        exact ⟨inR_i64 (by omega) (by omega), _, by omega, i + 1, by omega, rfl, by rw [List.length_map], by simp⟩
      · exact hend (by omega)
theorem own9_c (l : List Nd) (hl : Sml l) : PFun Try.prog 47 [encNs l] (encNs l) := fun σ =>
  (own9_o l hl σ).weak fun _ _ h => h.2.retv h.1 rfl
end Go.Vc
namespace Go.Vc
open Go.Proofs
set_option maxRecDepth 100000 in
theorem equal_c (a b : List Int) (ha : a.length ≤ 200000000000000) : PFun Try.prog 80 [encI a, encI b] (.bool (decide (a = b))) := fun σ => by
  refine Contract.of_runs Try.func80 e80 k80 (by simp [c80]) ?_
  refine Runs.mix 14 ?_
  (refine Runs.of_step Orc.nothing 300 ?_; simp -implicitDefEqProofs only [BB, effR_some, effD_some, Int.reduceEq, Int.reduceNe, Int.reduceLT, Int.reduceLE, Int.reduceGT, Int.reduceGE, Nat.reduceEqDiff, Nat.reduceAdd, Nat.reduceMul, Nat.reduceLeDiff, Nat.reduceSub, Nat.reduceLT, Nat.reduceBEq, ↓reduceIte, reduceCtorEq, ← decide_not, okind, vpre, vpure, intBin, intPre, strBin, strPre, popTo, argSlots, fldV, fldAV, subCells, idxVV, idxAAV, idxSV, sliceV, sliceSV, boundV, szIs, storeOp, storeS, setRowV, eff, extV, buildV, splice, eqSV, fitsL, eqCells, eqCell, minmaxV, capV, binBV, nilCheckV, bytesV, V.cells, V.stays, Orc.nothing, c80, lenV_encI])
  refine And.intro (fun h => ?_) (fun h => ?_)
  · refine RetV.same ?_
    rw [V.bool.injEq]; symm
    rw [decide_eq_false_iff_not]
    rintro rfl
    simp at h
  · have hl : a.length = b.length := by
      have : (a.length : Int) = b.length := by simpa using h
      omega
    refine Runs.loop (fun m st => ∃ i : Nat, i ≤ a.length ∧ m = a.length - i ∧ a.take i = b.take i ∧ st.σ = σ ∧ st.s 0 = encI a ∧ st.s 1 = encI b ∧ st.s 12 = vI a.length ∧ st.s 13 = vI i) a.length ?_ ?_
    · exact ⟨0, by omega, by omega, rfl, rfl, rfl, rfl, rfl, rfl⟩
    · rintro m ⟨s, σ'⟩ ⟨i, hi, rfl, ht, hσ, h0, h1, h12, h13⟩
      simp only at hσ h0 h1 h12 h13
      subst hσ
      refine Runs.mix 14 ?_
      (refine Runs.of_step Orc.nothing 300 ?_; simp -implicitDefEqProofs only [BB, effR_some, effD_some, Int.reduceEq, Int.reduceNe, Int.reduceLT, Int.reduceLE, Int.reduceGT, Int.reduceGE, Nat.reduceEqDiff, Nat.reduceAdd, Nat.reduceMul, Nat.reduceLeDiff, Nat.reduceSub, Nat.reduceLT, Nat.reduceBEq, ↓reduceIte, reduceCtorEq, ← decide_not, okind, vpre, vpure, intBin, intPre, strBin, strPre, popTo, argSlots, fldV, fldAV, subCells, idxVV, idxAAV, idxSV, sliceV, sliceSV, boundV, szIs, storeOp, storeS, setRowV, eff, extV, buildV, splice, eqSV, fitsL, eqCells, eqCell, minmaxV, capV, binBV, nilCheckV, bytesV, V.cells, V.stays, Orc.nothing, h0, h1, h12, h13])
      refine And.intro (fun hlt => ?_) (fun hge => ?_)
      · have hlt' : i < a.length := by omega
        have hlt2 : i < b.length := by omega
        simp -implicitDefEqProofs only [BB, effR_some, effD_some, Int.reduceEq, Int.reduceNe, Int.reduceLT, Int.reduceLE, Int.reduceGT, Int.reduceGE, Nat.reduceEqDiff, Nat.reduceAdd, Nat.reduceMul, Nat.reduceLeDiff, Nat.reduceSub, Nat.reduceLT, Nat.reduceBEq, ↓reduceIte, reduceCtorEq, ← decide_not, okind, vpre, vpure, intBin, intPre, strBin, strPre, popTo, argSlots, fldV, fldAV, subCells, idxVV, idxAAV, idxSV, sliceV, sliceSV, boundV, szIs, storeOp, storeS, setRowV, eff, extV, buildV, splice, eqSV, fitsL, eqCells, eqCell, minmaxV, capV, binBV, nilCheckV, bytesV, V.cells, V.stays, idxAV_encI hlt', idxAV_encI hlt2, h0, h1, h12, h13]
        refine And.intro (fun hd => ?_) (fun hd => ?_)
        · refine RetV.same ?_
          rw [V.bool.injEq]; symm
          rw [decide_eq_false_iff_not]
          rintro rfl
          exact hd rfl
        · refine ⟨inR_i64 (by omega) (by omega), _, ?_, i + 1, by omega, rfl, ?_, by simp⟩
          · omega
          · rw [List.take_succ_eq_append_getElem hlt', List.take_succ_eq_append_getElem hlt2, ht]
            have : a[i] = b[i] := by simpa using hd
            rw [this]
      · have hie : i = a.length := by omega
        refine RetV.same ?_
        rw [V.bool.injEq]; symm
        rw [decide_eq_true_eq]
        rw [hie, List.take_length] at ht
        rw [ht, hl, List.take_length]
set_option maxRecDepth 100000 in
theorem one9_c (a b : Nd) (ha : a.words.length ≤ 200000000000000) : PFun Try.prog 79 [encN a, encN b] (.bool (decide (a = b))) := fun σ => by
  refine Contract.of_runs Try.func79 e79 k79 (by simp [c79]) ?_
  refine Runs.mix 6 ?_
  (refine Runs.of_step Orc.nothing 300 ?_; simp -implicitDefEqProofs only [BB, Int.reduceEq, Int.reduceNe, Int.reduceLT, Int.reduceLE, Int.reduceGT, Int.reduceGE, Nat.reduceEqDiff, Nat.reduceAdd, Nat.reduceMul, Nat.reduceLeDiff, Nat.reduceSub, Nat.reduceLT, Nat.reduceBEq, ↓reduceIte, reduceCtorEq, ← decide_not, okind, vpre, vpure, intBin, intPre, strBin, strPre, popTo, argSlots, fldV, fldAV, subCells, idxVV, idxAAV, idxSV, sliceV, sliceSV, boundV, szIs, storeOp, storeS, setRowV, eff, extV, buildV, splice, eqSV, fitsL, eqCells, eqCell, minmaxV, capV, binBV, nilCheckV, bytesV, V.cells, V.stays, Orc.nothing, c79, encN, Nd.cells])
  refine effR_new fun id2 σ1 s1 a2 f2 => ?_
  simp -implicitDefEqProofs only [BB, Int.reduceEq, Int.reduceNe, Int.reduceLT, Int.reduceLE, Int.reduceGT, Int.reduceGE, Nat.reduceEqDiff, Nat.reduceAdd, Nat.reduceMul, Nat.reduceLeDiff, Nat.reduceSub, Nat.reduceLT, Nat.reduceBEq, ↓reduceIte, reduceCtorEq, ← decide_not, okind, vpre, vpure, intBin, intPre, strBin, strPre, popTo, argSlots, fldV, fldAV, subCells, idxVV, idxAAV, idxSV, sliceV, sliceSV, boundV, szIs, storeOp, storeS, setRowV, eff, extV, buildV, splice, eqSV, fitsL, eqCells, eqCell, minmaxV, capV, binBV, nilCheckV, bytesV, V.cells, V.stays, a2]
  refine effR_new fun id3 σ2 s2 a3 f3 => ?_
  have n23 := ne_new a2 f3
  have a2 := s2 _ _ a2
  have hs := s1.trans s2
  simp -implicitDefEqProofs only [BB, Int.reduceEq, Int.reduceNe, Int.reduceLT, Int.reduceLE, Int.reduceGT, Int.reduceGE, Nat.reduceEqDiff, Nat.reduceAdd, Nat.reduceMul, Nat.reduceLeDiff, Nat.reduceSub, Nat.reduceLT, Nat.reduceBEq, ↓reduceIte, reduceCtorEq, ← decide_not, okind, vpre, vpure, intBin, intPre, strBin, strPre, popTo, argSlots, fldV, fldAV, subCells, idxVV, idxAAV, idxSV, sliceV, sliceSV, boundV, szIs, storeOp, storeS, setRowV, eff, extV, buildV, splice, eqSV, fitsL, eqCells, eqCell, minmaxV, capV, binBV, nilCheckV, bytesV, V.cells, V.stays, a2, a3]
  refine Runs.pcall rfl rfl rfl (equal_c a.words b.words ha _) ?_
  by_cases hw : a.words = b.words
  · have hwt : decide (a.words = b.words) = true := decide_eq_true hw
    (refine Runs.of_step Orc.nothing 300 ?_; simp -implicitDefEqProofs only [BB, Int.reduceEq, Int.reduceNe, Int.reduceLT, Int.reduceLE, Int.reduceGT, Int.reduceGE, Nat.reduceEqDiff, Nat.reduceAdd, Nat.reduceMul, Nat.reduceLeDiff, Nat.reduceSub, Nat.reduceLT, Nat.reduceBEq, ↓reduceIte, reduceCtorEq, ← decide_not, okind, vpre, vpure, intBin, intPre, strBin, strPre, popTo, argSlots, fldV, fldAV, subCells, idxVV, idxAAV, idxSV, sliceV, sliceSV, boundV, szIs, storeOp, storeS, setRowV, eff, extV, buildV, splice, eqSV, fitsL, eqCells, eqCell, minmaxV, capV, binBV, nilCheckV, bytesV, V.cells, V.stays, Orc.nothing, hwt, a2, a3, styEq])
    refine And.intro (fun c1 => And.intro (fun c2 => And.intro (fun c3 => And.intro (fun c4 => And.intro (fun c5 => And.intro (fun c6 => And.intro (fun c7 => ?_) (fun c7 => ?_)) (fun c6 => ?_)) (fun c5 => ?_)) (fun c4 => ?_)) (fun c3 => ?_)) (fun c2 => ?_)) (fun c1 => ?_)
    all_goals (refine RetV.pure hs ?_; rw [V.bool.injEq])
    · rw [Bool.eq_iff_iff, decide_eq_true_eq, decide_eq_true_eq]
      cases a; cases b; simp_all
    all_goals (symm; rw [decide_eq_false_iff_not]; rintro rfl; simp at *)
  · have hwt : decide (a.words = b.words) = false := decide_eq_false hw
    (refine Runs.of_step Orc.nothing 300 ?_; simp -implicitDefEqProofs only [BB, Int.reduceEq, Int.reduceNe, Int.reduceLT, Int.reduceLE, Int.reduceGT, Int.reduceGE, Nat.reduceEqDiff, Nat.reduceAdd, Nat.reduceMul, Nat.reduceLeDiff, Nat.reduceSub, Nat.reduceLT, Nat.reduceBEq, ↓reduceIte, reduceCtorEq, ← decide_not, okind, vpre, vpure, intBin, intPre, strBin, strPre, popTo, argSlots, fldV, fldAV, subCells, idxVV, idxAAV, idxSV, sliceV, sliceSV, boundV, szIs, storeOp, storeS, setRowV, eff, extV, buildV, splice, eqSV, fitsL, eqCells, eqCell, minmaxV, capV, binBV, nilCheckV, bytesV, V.cells, V.stays, Orc.nothing, hwt, a2, a3, styEq])
    refine RetV.pure hs ?_
    rw [V.bool.injEq]; symm
    rw [decide_eq_false_iff_not]; rintro rfl; exact hw rfl
end Go.Vc
namespace Go.Vc
open Go.Proofs
set_option maxRecDepth 100000 in
theorem eqf_c (a b : List Nd) (ha : Fine a) (hb : Fine b) : PFun Try.prog 78 [encNs a, encNs b, .fn 79 []] (.bool (decide (a = b))) := fun σ => by
  have hal := ha.1
  refine Contract.of_runs Try.func78 e78 k78 (by simp [c78]) ?_
  refine Runs.mix 18 ?_
  (refine Runs.of_step Orc.nothing 300 ?_; simp -implicitDefEqProofs only [BB, Int.reduceEq, Int.reduceNe, Int.reduceLT, Int.reduceLE, Int.reduceGT, Int.reduceGE, Nat.reduceEqDiff, Nat.reduceAdd, Nat.reduceMul, Nat.reduceLeDiff, Nat.reduceSub, Nat.reduceLT, Nat.reduceBEq, ↓reduceIte, reduceCtorEq, ← decide_not, okind, vpre, vpure, intBin, intPre, strBin, strPre, popTo, argSlots, fldV, fldAV, subCells, idxVV, idxAAV, idxSV, sliceV, sliceSV, boundV, szIs, storeOp, storeS, setRowV, eff, extV, buildV, splice, eqSV, fitsL, eqCells, eqCell, minmaxV, capV, binBV, nilCheckV, bytesV, V.cells, V.stays, Orc.nothing, c78, lenV_encNs])
  refine And.intro (fun hl => ?_) (fun hl => ?_)
  · refine RetV.same ?_
    rw [V.bool.injEq]; symm
    rw [decide_eq_false_iff_not]
    rintro rfl
    simp at hl
  · have hl : a.length = b.length := by
      have : (a.length : Int) = b.length := by simpa using hl
      omega
    refine Runs.loop (fun m st => ∃ i : Nat, i ≤ a.length ∧ m = a.length - i ∧ a.take i = b.take i ∧ SubStore σ st.σ ∧ st.s 1 = encNs b ∧ st.s 2 = .fn 79 [] ∧ st.s 15 = encNs a ∧ st.s 16 = vI a.length ∧ st.s 17 = vI i) a.length ?_ ?_
    · exact ⟨0, by omega, by omega, rfl, SubStore.refl _, rfl, rfl, rfl, rfl, rfl⟩
    · rintro m ⟨s, σ'⟩ ⟨i, hi, rfl, ht, hsub, h1, h2, h15, h16, h17⟩
      simp only at hsub h1 h2 h15 h16 h17
      refine Runs.mix 18 ?_
      (refine Runs.of_step Orc.nothing 300 ?_; simp -implicitDefEqProofs only [BB, Int.reduceEq, Int.reduceNe, Int.reduceLT, Int.reduceLE, Int.reduceGT, Int.reduceGE, Nat.reduceEqDiff, Nat.reduceAdd, Nat.reduceMul, Nat.reduceLeDiff, Nat.reduceSub, Nat.reduceLT, Nat.reduceBEq, ↓reduceIte, reduceCtorEq, ← decide_not, okind, vpre, vpure, intBin, intPre, strBin, strPre, popTo, argSlots, fldV, fldAV, subCells, idxVV, idxAAV, idxSV, sliceV, sliceSV, boundV, szIs, storeOp, storeS, setRowV, eff, extV, buildV, splice, eqSV, fitsL, eqCells, eqCell, minmaxV, capV, binBV, nilCheckV, bytesV, V.cells, V.stays, Orc.nothing, h1, h2, h15, h16, h17])
      refine And.intro (fun hlt => ?_) (fun hge => ?_)
      · have hlt' : i < a.length := by omega
        have hlt2 : i < b.length := by omega
        have hx := ha.2 _ (List.getElem_mem hlt')
        have hy := hb.2 _ (List.getElem_mem hlt2)
        have hta := List.take_succ_eq_append_getElem hlt'
        have htb := List.take_succ_eq_append_getElem hlt2
        have hxe : a[i]? = some a[i] := by simp [hlt']
        have hye : b[i]? = some b[i] := by simp [hlt2]
        generalize hxg : a[i] = x at *
        generalize hyg : b[i] = y at *
        simp -implicitDefEqProofs only [BB, Int.reduceEq, Int.reduceNe, Int.reduceLT, Int.reduceLE, Int.reduceGT, Int.reduceGE, Nat.reduceEqDiff, Nat.reduceAdd, Nat.reduceMul, Nat.reduceLeDiff, Nat.reduceSub, Nat.reduceLT, Nat.reduceBEq, ↓reduceIte, reduceCtorEq, ← decide_not, okind, vpre, vpure, intBin, intPre, strBin, strPre, popTo, argSlots, fldV, fldAV, subCells, idxVV, idxAAV, idxSV, sliceV, sliceSV, boundV, szIs, storeOp, storeS, setRowV, eff, extV, buildV, splice, eqSV, fitsL, eqCells, eqCell, minmaxV, capV, binBV, nilCheckV, bytesV, V.cells, V.stays, idxAV_encNs hlt', idxAV_encNs hlt2, hxg, hyg, Nd.cells, h1, h2, h15, h16, h17]
        refine effR_new fun id1 σ1 s1 a1 f1 => ?_
        simp -implicitDefEqProofs only [BB, Int.reduceEq, Int.reduceNe, Int.reduceLT, Int.reduceLE, Int.reduceGT, Int.reduceGE, Nat.reduceEqDiff, Nat.reduceAdd, Nat.reduceMul, Nat.reduceLeDiff, Nat.reduceSub, Nat.reduceLT, Nat.reduceBEq, ↓reduceIte, reduceCtorEq, ← decide_not, okind, vpre, vpure, intBin, intPre, strBin, strPre, popTo, argSlots, fldV, fldAV, subCells, idxVV, idxAAV, idxSV, sliceV, sliceSV, boundV, szIs, storeOp, storeS, setRowV, eff, extV, buildV, splice, eqSV, fitsL, eqCells, eqCell, minmaxV, capV, binBV, nilCheckV, bytesV, V.cells, V.stays, a1, idxAV_encNs hlt', idxAV_encNs hlt2, hxg, hyg, Nd.cells, encI_cells, encI_stays, h1, h2, h15, h16, h17]
        refine effR_new fun id2 σ2 s2 a2 f2 => ?_
        have n12 : id1 ≠ id2 := by rintro rfl; rw [upd_same] at f2; cases f2
        have a1' := s2 id1 _ upd_same
        have hs2 := ((hsub.trans s1).updK (hsub.none f1)).trans s2
        have g2 := ((hsub.trans s1).updK (hsub.none f1)).none f2
        simp -implicitDefEqProofs only [BB, Int.reduceEq, Int.reduceNe, Int.reduceLT, Int.reduceLE, Int.reduceGT, Int.reduceGE, Nat.reduceEqDiff, Nat.reduceAdd, Nat.reduceMul, Nat.reduceLeDiff, Nat.reduceSub, Nat.reduceLT, Nat.reduceBEq, ↓reduceIte, reduceCtorEq, ← decide_not, okind, vpre, vpure, intBin, intPre, strBin, strPre, popTo, argSlots, fldV, fldAV, subCells, idxVV, idxAAV, idxSV, sliceV, sliceSV, boundV, szIs, storeOp, storeS, setRowV, eff, extV, buildV, splice, eqSV, fitsL, eqCells, eqCell, minmaxV, capV, binBV, nilCheckV, bytesV, V.cells, V.stays, a1', a2, upd_ne n12, encI_cells, encI_stays, h1, h2, h15, h16, h17]
        refine Runs.pcall rfl rfl rfl (one9_c x y hx _) ?_
        by_cases hd : x = y
        · have hdt : decide (x = y) = true := decide_eq_true hd
          (refine Runs.of_step Orc.nothing 300 ?_; simp -implicitDefEqProofs only [BB, Int.reduceEq, Int.reduceNe, Int.reduceLT, Int.reduceLE, Int.reduceGT, Int.reduceGE, Nat.reduceEqDiff, Nat.reduceAdd, Nat.reduceMul, Nat.reduceLeDiff, Nat.reduceSub, Nat.reduceLT, Nat.reduceBEq, ↓reduceIte, reduceCtorEq, ← decide_not, okind, vpre, vpure, intBin, intPre, strBin, strPre, popTo, argSlots, fldV, fldAV, subCells, idxVV, idxAAV, idxSV, sliceV, sliceSV, boundV, szIs, storeOp, storeS, setRowV, eff, extV, buildV, splice, eqSV, fitsL, eqCells, eqCell, minmaxV, capV, binBV, nilCheckV, bytesV, V.cells, V.stays, Orc.nothing, hdt, h1, h2, h15, h16, h17])
          refine ⟨inR_i64 (by omega) (by omega), _, ?_, i + 1, by omega, rfl, ?_, hs2.updK g2, by simp⟩
          · omega
          · rw [hta, htb, ht, hd]
        · have hdt : decide (x = y) = false := decide_eq_false hd
          (refine Runs.of_step Orc.nothing 300 ?_; simp -implicitDefEqProofs only [BB, Int.reduceEq, Int.reduceNe, Int.reduceLT, Int.reduceLE, Int.reduceGT, Int.reduceGE, Nat.reduceEqDiff, Nat.reduceAdd, Nat.reduceMul, Nat.reduceLeDiff, Nat.reduceSub, Nat.reduceLT, Nat.reduceBEq, ↓reduceIte, reduceCtorEq, ← decide_not, okind, vpre, vpure, intBin, intPre, strBin, strPre, popTo, argSlots, fldV, fldAV, subCells, idxVV, idxAAV, idxSV, sliceV, sliceSV, boundV, szIs, storeOp, storeS, setRowV, eff, extV, buildV, splice, eqSV, fitsL, eqCells, eqCell, minmaxV, capV, binBV, nilCheckV, bytesV, V.cells, V.stays, Orc.nothing, hdt, h1, h2, h15, h16, h17])
          refine RetV.pure (hs2.updK g2) ?_
          rw [V.bool.injEq]; symm
          rw [decide_eq_false_iff_not]
          rintro rfl
          rw [hxe] at hye
          simp at hye
          exact hd hye
      · have hie : i = a.length := by omega
        refine RetV.pure hsub ?_
        rw [V.bool.injEq]; symm
        rw [decide_eq_true_eq]
        rw [hie, List.take_length] at ht
        rw [ht, hl, List.take_length]
set_option maxRecDepth 100000 in
theorem same9_c (a b : List Nd) (ha : Fine a) (hb : Fine b) : PFun Try.prog 52 [encNs a, encNs b] (.bool (decide (a = b))) := fun σ => by
  refine Contract.of_runs Try.func52 e52 k52 (by simp [c52]) ?_
  refine Runs.mix 5 ?_
  (refine Runs.of_step Orc.nothing 300 ?_; simp -implicitDefEqProofs only [BB, effR_some, effD_some, Int.reduceEq, Int.reduceNe, Int.reduceLT, Int.reduceLE, Int.reduceGT, Int.reduceGE, Nat.reduceEqDiff, Nat.reduceAdd, Nat.reduceMul, Nat.reduceLeDiff, Nat.reduceSub, Nat.reduceLT, Nat.reduceBEq, ↓reduceIte, reduceCtorEq, ← decide_not, okind, vpre, vpure, intBin, intPre, strBin, strPre, popTo, argSlots, fldV, fldAV, subCells, idxVV, idxAAV, idxSV, sliceV, sliceSV, boundV, szIs, storeOp, storeS, setRowV, eff, extV, buildV, splice, eqSV, fitsL, eqCells, eqCell, minmaxV, capV, binBV, nilCheckV, bytesV, V.cells, V.stays, Orc.nothing, c52])
  refine Runs.pcall rfl rfl rfl (eqf_c a b ha hb _) ?_
  (refine Runs.of_step Orc.nothing 300 ?_; simp -implicitDefEqProofs only [BB, effR_some, effD_some, Int.reduceEq, Int.reduceNe, Int.reduceLT, Int.reduceLE, Int.reduceGT, Int.reduceGE, Nat.reduceEqDiff, Nat.reduceAdd, Nat.reduceMul, Nat.reduceLeDiff, Nat.reduceSub, Nat.reduceLT, Nat.reduceBEq, ↓reduceIte, reduceCtorEq, ← decide_not, okind, vpre, vpure, intBin, intPre, strBin, strPre, popTo, argSlots, fldV, fldAV, subCells, idxVV, idxAAV, idxSV, sliceV, sliceSV, boundV, szIs, storeOp, storeS, setRowV, eff, extV, buildV, splice, eqSV, fitsL, eqCells, eqCell, minmaxV, capV, binBV, nilCheckV, bytesV, V.cells, V.stays, Orc.nothing])
  exact RetV.same rfl
theorem edEq (x y : Ed) : x = y ↔ x.kind = y.kind ∧ x.into = y.into ∧ x.pos = y.pos ∧ x.many = y.many ∧ x.st = y.st ∧ x.sub = y.sub := by
  cases x; cases y; simp; intros; exact And.comm
set_option maxRecDepth 100000 in
theorem sameE_c (x y : Ed) (hx : Fine x.sub) (hy : Fine y.sub) : PFun Try.prog 23 [encE x, encE y] (.bool (decide (x = y))) := fun σ => by
  refine Contract.of_runs Try.func23 e23 k23 (by simp [c23]) ?_
  refine Runs.mix 5 ?_
  (refine Runs.of_step Orc.nothing 300 ?_; simp -implicitDefEqProofs only [BB, Int.reduceEq, Int.reduceNe, Int.reduceLT, Int.reduceLE, Int.reduceGT, Int.reduceGE, Nat.reduceEqDiff, Nat.reduceAdd, Nat.reduceMul, Nat.reduceLeDiff, Nat.reduceSub, Nat.reduceLT, Nat.reduceBEq, ↓reduceIte, reduceCtorEq, ← decide_not, okind, vpre, vpure, intBin, intPre, strBin, strPre, popTo, argSlots, fldV, fldAV, subCells, idxVV, idxAAV, idxSV, sliceV, sliceSV, boundV, szIs, storeOp, storeS, setRowV, eff, extV, buildV, splice, eqSV, fitsL, eqCells, eqCell, minmaxV, capV, binBV, nilCheckV, bytesV, V.cells, V.stays, Orc.nothing, c23, encE, Ed.cells, encNs_cells, encNs_stays])
  refine effR_new fun id2 σ1 s1 a2 f2 => ?_
  simp -implicitDefEqProofs only [BB, Int.reduceEq, Int.reduceNe, Int.reduceLT, Int.reduceLE, Int.reduceGT, Int.reduceGE, Nat.reduceEqDiff, Nat.reduceAdd, Nat.reduceMul, Nat.reduceLeDiff, Nat.reduceSub, Nat.reduceLT, Nat.reduceBEq, ↓reduceIte, reduceCtorEq, ← decide_not, okind, vpre, vpure, intBin, intPre, strBin, strPre, popTo, argSlots, fldV, fldAV, subCells, idxVV, idxAAV, idxSV, sliceV, sliceSV, boundV, szIs, storeOp, storeS, setRowV, eff, extV, buildV, splice, eqSV, fitsL, eqCells, eqCell, minmaxV, capV, binBV, nilCheckV, bytesV, V.cells, V.stays, a2, encNs_cells, encNs_stays]
  refine effR_new fun id3 σ2 s2 a3 f3 => ?_
  have n23 := ne_new a2 f3
  have a2 := s2 _ _ a2
  have hs := s1.trans s2
  simp -implicitDefEqProofs only [BB, Int.reduceEq, Int.reduceNe, Int.reduceLT, Int.reduceLE, Int.reduceGT, Int.reduceGE, Nat.reduceEqDiff, Nat.reduceAdd, Nat.reduceMul, Nat.reduceLeDiff, Nat.reduceSub, Nat.reduceLT, Nat.reduceBEq, ↓reduceIte, reduceCtorEq, ← decide_not, okind, vpre, vpure, intBin, intPre, strBin, strPre, popTo, argSlots, fldV, fldAV, subCells, idxVV, idxAAV, idxSV, sliceV, sliceSV, boundV, szIs, storeOp, storeS, setRowV, eff, extV, buildV, splice, eqSV, fitsL, eqCells, eqCell, minmaxV, capV, binBV, nilCheckV, bytesV, V.cells, V.stays, a2, a3, styEq, encNs_cells, encNs_stays]
  refine And.intro (fun c1 => And.intro (fun c2 => And.intro (fun c3 => And.intro (fun c4 => And.intro (fun c5 => ?_) (fun c5 => ?_)) (fun c4 => ?_)) (fun c3 => ?_)) (fun c2 => ?_)) (fun c1 => ?_)
  · refine Runs.pcall rfl rfl rfl (same9_c x.sub y.sub hx hy _) ?_
    (refine Runs.of_step Orc.nothing 300 ?_; simp -implicitDefEqProofs only [BB, Int.reduceEq, Int.reduceNe, Int.reduceLT, Int.reduceLE, Int.reduceGT, Int.reduceGE, Nat.reduceEqDiff, Nat.reduceAdd, Nat.reduceMul, Nat.reduceLeDiff, Nat.reduceSub, Nat.reduceLT, Nat.reduceBEq, ↓reduceIte, reduceCtorEq, ← decide_not, okind, vpre, vpure, intBin, intPre, strBin, strPre, popTo, argSlots, fldV, fldAV, subCells, idxVV, idxAAV, idxSV, sliceV, sliceSV, boundV, szIs, storeOp, storeS, setRowV, eff, extV, buildV, splice, eqSV, fitsL, eqCells, eqCell, minmaxV, capV, binBV, nilCheckV, bytesV, V.cells, V.stays, Orc.nothing])
    refine RetV.pure hs ?_
    rw [V.bool.injEq, Bool.eq_iff_iff, decide_eq_true_eq, decide_eq_true_eq, edEq]
    simp_all
  all_goals (refine RetV.pure hs ?_; rw [V.bool.injEq]; symm; rw [decide_eq_false_iff_not]; rintro rfl; simp at *)
set_option maxRecDepth 100000 in
theorem sameE8_c (x y : Ed) (hx : Fine x.sub) (hy : Fine y.sub) : PFun Try.prog 24 [encE x, encE y] (.bool (decide (x = y))) := fun σ => by
  refine Contract.of_runs Try.func24 e24 k24 (by simp [c24]) ?_
  refine Runs.mix 5 ?_
  (refine Runs.of_step Orc.nothing 300 ?_; simp -implicitDefEqProofs only [BB, Int.reduceEq, Int.reduceNe, Int.reduceLT, Int.reduceLE, Int.reduceGT, Int.reduceGE, Nat.reduceEqDiff, Nat.reduceAdd, Nat.reduceMul, Nat.reduceLeDiff, Nat.reduceSub, Nat.reduceLT, Nat.reduceBEq, ↓reduceIte, reduceCtorEq, ← decide_not, okind, vpre, vpure, intBin, intPre, strBin, strPre, popTo, argSlots, fldV, fldAV, subCells, idxVV, idxAAV, idxSV, sliceV, sliceSV, boundV, szIs, storeOp, storeS, setRowV, eff, extV, buildV, splice, eqSV, fitsL, eqCells, eqCell, minmaxV, capV, binBV, nilCheckV, bytesV, V.cells, V.stays, Orc.nothing, c24, encE, Ed.cells, encNs_cells, encNs_stays])
  refine effR_new fun id2 σ1 s1 a2 f2 => ?_
  simp -implicitDefEqProofs only [BB, Int.reduceEq, Int.reduceNe, Int.reduceLT, Int.reduceLE, Int.reduceGT, Int.reduceGE, Nat.reduceEqDiff, Nat.reduceAdd, Nat.reduceMul, Nat.reduceLeDiff, Nat.reduceSub, Nat.reduceLT, Nat.reduceBEq, ↓reduceIte, reduceCtorEq, ← decide_not, okind, vpre, vpure, intBin, intPre, strBin, strPre, popTo, argSlots, fldV, fldAV, subCells, idxVV, idxAAV, idxSV, sliceV, sliceSV, boundV, szIs, storeOp, storeS, setRowV, eff, extV, buildV, splice, eqSV, fitsL, eqCells, eqCell, minmaxV, capV, binBV, nilCheckV, bytesV, V.cells, V.stays, a2, encNs_cells, encNs_stays]
  refine effR_new fun id3 σ2 s2 a3 f3 => ?_
  have n23 := ne_new a2 f3
  have a2 := s2 _ _ a2
  have hs := s1.trans s2
  simp -implicitDefEqProofs only [BB, Int.reduceEq, Int.reduceNe, Int.reduceLT, Int.reduceLE, Int.reduceGT, Int.reduceGE, Nat.reduceEqDiff, Nat.reduceAdd, Nat.reduceMul, Nat.reduceLeDiff, Nat.reduceSub, Nat.reduceLT, Nat.reduceBEq, ↓reduceIte, reduceCtorEq, ← decide_not, okind, vpre, vpure, intBin, intPre, strBin, strPre, popTo, argSlots, fldV, fldAV, subCells, idxVV, idxAAV, idxSV, sliceV, sliceSV, boundV, szIs, storeOp, storeS, setRowV, eff, extV, buildV, splice, eqSV, fitsL, eqCells, eqCell, minmaxV, capV, binBV, nilCheckV, bytesV, V.cells, V.stays, a2, a3, styEq, encNs_cells, encNs_stays]
  refine And.intro (fun c1 => And.intro (fun c2 => And.intro (fun c3 => And.intro (fun c4 => And.intro (fun c5 => ?_) (fun c5 => ?_)) (fun c4 => ?_)) (fun c3 => ?_)) (fun c2 => ?_)) (fun c1 => ?_)
  · refine Runs.pcall rfl rfl rfl (same5_c x.sub y.sub hx hy _) ?_
    (refine Runs.of_step Orc.nothing 300 ?_; simp -implicitDefEqProofs only [BB, Int.reduceEq, Int.reduceNe, Int.reduceLT, Int.reduceLE, Int.reduceGT, Int.reduceGE, Nat.reduceEqDiff, Nat.reduceAdd, Nat.reduceMul, Nat.reduceLeDiff, Nat.reduceSub, Nat.reduceLT, Nat.reduceBEq, ↓reduceIte, reduceCtorEq, ← decide_not, okind, vpre, vpure, intBin, intPre, strBin, strPre, popTo, argSlots, fldV, fldAV, subCells, idxVV, idxAAV, idxSV, sliceV, sliceSV, boundV, szIs, storeOp, storeS, setRowV, eff, extV, buildV, splice, eqSV, fitsL, eqCells, eqCell, minmaxV, capV, binBV, nilCheckV, bytesV, V.cells, V.stays, Orc.nothing])
    refine RetV.pure hs ?_
    rw [V.bool.injEq, Bool.eq_iff_iff, decide_eq_true_eq, decide_eq_true_eq, edEq]
    simp_all
  all_goals (refine RetV.pure hs ?_; rw [V.bool.injEq]; symm; rw [decide_eq_false_iff_not]; rintro rfl; simp at *)
set_option maxRecDepth 100000 in
theorem own8_c (l : List Nd) (hl : Sml l) : PFun Try.prog 49 [encNs l] (encNs l) := fun σ => by
  refine Contract.of_runs Try.func49 e49 k49 (by simp [c49]) ?_
  refine Runs.mix 3 ?_
  (refine Runs.of_step Orc.nothing 300 ?_; simp -implicitDefEqProofs only [BB, effR_some, effD_some, Int.reduceEq, Int.reduceNe, Int.reduceLT, Int.reduceLE, Int.reduceGT, Int.reduceGE, Nat.reduceEqDiff, Nat.reduceAdd, Nat.reduceMul, Nat.reduceLeDiff, Nat.reduceSub, Nat.reduceLT, Nat.reduceBEq, ↓reduceIte, reduceCtorEq, ← decide_not, okind, vpre, vpure, intBin, intPre, strBin, strPre, popTo, argSlots, fldV, fldAV, subCells, idxVV, idxAAV, idxSV, sliceV, sliceSV, boundV, szIs, storeOp, storeS, setRowV, eff, extV, buildV, splice, eqSV, fitsL, eqCells, eqCell, minmaxV, capV, binBV, nilCheckV, bytesV, V.cells, V.stays, Orc.nothing, c49])
  refine Runs.pcall rfl rfl rfl (own_c l hl _) ?_
  (refine Runs.of_step Orc.nothing 300 ?_; simp -implicitDefEqProofs only [BB, effR_some, effD_some, Int.reduceEq, Int.reduceNe, Int.reduceLT, Int.reduceLE, Int.reduceGT, Int.reduceGE, Nat.reduceEqDiff, Nat.reduceAdd, Nat.reduceMul, Nat.reduceLeDiff, Nat.reduceSub, Nat.reduceLT, Nat.reduceBEq, ↓reduceIte, reduceCtorEq, ← decide_not, okind, vpre, vpure, intBin, intPre, strBin, strPre, popTo, argSlots, fldV, fldAV, subCells, idxVV, idxAAV, idxSV, sliceV, sliceSV, boundV, szIs, storeOp, storeS, setRowV, eff, extV, buildV, splice, eqSV, fitsL, eqCells, eqCell, minmaxV, capV, binBV, nilCheckV, bytesV, V.cells, V.stays, Orc.nothing])
  exact RetV.same rfl
set_option maxRecDepth 100000 in
theorem tops_c (l : List Nd) (hl : Fine l) (hb : isB l = true) : PFun Try.prog 46 [encNs l] (vI (kidsR l (-1)).length) := fun σ => by
  refine Contract.of_runs Try.func46 e46 k46 (by simp [c46]) ?_
  refine Runs.mix 3 ?_
  (refine Runs.of_step Orc.nothing 300 ?_; simp -implicitDefEqProofs only [BB, effR_some, effD_some, Int.reduceEq, Int.reduceNe, Int.reduceLT, Int.reduceLE, Int.reduceGT, Int.reduceGE, Nat.reduceEqDiff, Nat.reduceAdd, Nat.reduceMul, Nat.reduceLeDiff, Nat.reduceSub, Nat.reduceLT, Nat.reduceBEq, ↓reduceIte, reduceCtorEq, ← decide_not, okind, vpre, vpure, intBin, intPre, strBin, strPre, popTo, argSlots, fldV, fldAV, subCells, idxVV, idxAAV, idxSV, sliceV, sliceSV, boundV, szIs, storeOp, storeS, setRowV, eff, extV, buildV, splice, eqSV, fitsL, eqCells, eqCell, minmaxV, capV, binBV, nilCheckV, bytesV, V.cells, V.stays, Orc.nothing, c46])
  refine Runs.pcall rfl rfl rfl (kids9_p l hl hb (-1) (.inl rfl) _) ?_
  (refine Runs.of_step Orc.nothing 300 ?_; simp -implicitDefEqProofs only [BB, effR_some, effD_some, Int.reduceEq, Int.reduceNe, Int.reduceLT, Int.reduceLE, Int.reduceGT, Int.reduceGE, Nat.reduceEqDiff, Nat.reduceAdd, Nat.reduceMul, Nat.reduceLeDiff, Nat.reduceSub, Nat.reduceLT, Nat.reduceBEq, ↓reduceIte, reduceCtorEq, ← decide_not, okind, vpre, vpure, intBin, intPre, strBin, strPre, popTo, argSlots, fldV, fldAV, subCells, idxVV, idxAAV, idxSV, sliceV, sliceSV, boundV, szIs, storeOp, storeS, setRowV, eff, extV, buildV, splice, eqSV, fitsL, eqCells, eqCell, minmaxV, capV, binBV, nilCheckV, bytesV, V.cells, V.stays, Orc.nothing, lenV_encI])
  exact RetV.same rfl
end Go.Vc
namespace Go.Vc
open Go.Proofs
def Srt : Int → List Int → Prop
  | _, [] => True
  | a, q :: r => a ≤ q ∧ Srt (q + 1) r
theorem Srt.le {a b : Int} (h : b ≤ a) : ∀ {l : List Int}, Srt a l → Srt b l
  | [], _ => trivial
  | _ :: _, ⟨h1, h2⟩ => ⟨by omega, h2⟩
theorem Srt.ge {a : Int} : ∀ {l : List Int}, Srt a l → ∀ x ∈ l, a ≤ x
  | _ :: r, ⟨h1, h2⟩, x, hx => by
    rcases List.mem_cons.1 hx with rfl | hx
    · exact h1
    · have := Srt.ge h2 x hx; omega
/-- where a row begins and ends -/
def rowOfI (l : List Nd) (into : Int) : Nat × Nat := if into = -1 then (0, l.length) else (into.toNat + 1, into.toNat + (szI l into.toNat).toNat)
theorem rowOfI_facts {l : List Nd} (hb : isB l = true) {into : Int} (hin : into = -1 ∨ hasI l into = true) : ∃ a e : Nat, rowOfI l into = (a, e) ∧ (a : Int) = into + 1 ∧ a ≤ e ∧ e ≤ l.length ∧ rowsB l a e = true ∧ kidsR l into = kidsW l a e := by
  have hrows : rowsB l 0 l.length = true := by simp only [isB, Bool.and_eq_true] at hb; exact hb.2
  by_cases h : into = -1
  · subst h
    exact ⟨0, l.length, by simp [rowOfI], by omega, by omega, Nat.le_refl _, hrows, kidsR_top hb⟩
  · have hh : hasI l into = true := by rcases hin with h1 | h1; exact absurd h1 h; exact h1
    obtain ⟨p, rfl⟩ : ∃ p : Nat, into = p := ⟨into.toNat, by have := hasI_iff.1 hh; omega⟩
    have hp : p < l.length := by have := hasI_iff.1 hh; omega
    obtain ⟨z1, z2⟩ := szI_bound hb hp
    have hse := szI_eq hp
    obtain ⟨z3, _⟩ := rowsB_ends (Nat.le_refl _) hrows (Nat.zero_le p) hp
    have hin := rowsB_inner l (l.length + 1) 0 l.length (by omega) (Nat.le_refl _) hrows p (by omega) hp hp
    rw [← hse] at hin
    exact ⟨p + 1, p + (szI l p).toNat, by simp [rowOfI, h], by omega, by omega, by omega, hin, kidsR_in hb hp⟩
theorem kidsW_srt {l : List Nd} {e : Nat} (he : e ≤ l.length) : ∀ (m a : Nat), e - a < m → a ≤ e → rowsB l a e = true → Srt a (kidsW l a e ++ [(e : Int)]) ∧ (∀ x ∈ kidsW l a e, x < e) ∧ ∀ into : Int, (a : Int) = into + 1 → lastEnd l into (kidsW l a e) = e
  | 0, _, h, _, _ => by omega
  | m + 1, a, hm, hae, hr => by
    by_cases hlt : a < e
    · have hal : a < l.length := by omega
      obtain ⟨h1, h2⟩ := rowsB_ends he hr (Nat.le_refl a) hlt
      obtain ⟨h3, _⟩ := rowsB_next he hr hlt
      have hse := szI_eq hal
      have hz : ((szI l a).toNat : Int) = szI l a := by omega
      obtain ⟨g1, g2, g3⟩ := kidsW_srt he m (a + (szI l a).toNat) (by omega) (by omega) h3
      rw [kidsW_cons hlt hal (by omega), ← hse]
      refine ⟨⟨Int.le_refl _, g1.le (by omega)⟩, ?_, ?_⟩
      · intro x hx
        rcases List.mem_cons.1 hx with rfl | hx
        · omega
        · exact g2 x hx
      · intro into hinto
        have := g3 ((a : Int) + szI l a - 1) (by omega)
        rw [← this]
        simp only [lastEnd, List.foldl_cons, Int.toNat_natCast]
        congr 1
        omega
    · have : a = e := by omega
      subst this
      rw [kidsW_nil (Nat.le_refl _)]
      exact ⟨⟨Int.le_refl _, trivial⟩, by simp, fun into h => by rw [lastEnd_nil]; omega⟩
theorem placesR_eq {l : List Nd} (hb : isB l = true) {into : Int} (hin : into = -1 ∨ hasI l into = true) {a e : Nat} (h : rowOfI l into = (a, e)) : placesR l into = kidsW l a e ++ [(e : Int)] ∧ Srt (into + 1) (placesR l into) ∧ ∀ x ∈ placesR l into, x ≤ e := by
  obtain ⟨a', e', h1, h2, h3, h4, h5, h6⟩ := rowOfI_facts hb hin
  rw [h] at h1
  obtain ⟨rfl, rfl⟩ := Prod.mk.inj h1
  obtain ⟨g1, g2, g3⟩ := kidsW_srt h4 (e + 1) a (by omega) h3 h5
  have hp : placesR l into = kidsW l a e ++ [(e : Int)] := by rw [placesR, h6, g3 into h2]
  refine ⟨hp, ?_, ?_⟩
  · rw [hp, ← h2]; exact g1
  · rw [hp]
    intro x hx
    rcases List.mem_append.1 hx with hx | hx
    · have := g2 x hx; omega
    · simp at hx; omega
theorem Srt.lt_of_get {a : Int} : ∀ {l : List Int}, Srt a l → ∀ (i j : Nat) (x y : Int), i ≤ j → l[i]? = some x → l[j]? = some y → x + ((j : Int) - i) ≤ y
  | [], _, i, j, x, y, _, h, _ => by simp at h
  | q :: r, ⟨h1, h2⟩, 0, 0, x, y, _, hx, hy => by simp at hx hy; omega
  | q :: r, ⟨h1, h2⟩, 0, j + 1, x, y, _, hx, hy => by
    simp at hx hy
    have hj := (List.getElem?_eq_some_iff.1 hy).1
    have h0 : r[0]? = some r[0] := by simp [show 0 < r.length by omega]
    have := Srt.lt_of_get h2 0 j _ y (by omega) h0 hy
    have h3 := Srt.ge h2 _ (List.mem_of_getElem? h0)
    omega
  | q :: r, ⟨h1, h2⟩, i + 1, 0, x, y, h, _, _ => by omega
  | q :: r, ⟨h1, h2⟩, i + 1, j + 1, x, y, h, hx, hy => by
    simp at hx hy
    have := Srt.lt_of_get h2 i j x y (by omega) hx hy
    omega
theorem idxI_get {a : Int} : ∀ {p : List Int} {i : Nat}, 0 ≤ idxI a p i → p[(idxI a p i - i).toNat]? = some a ∧ (i : Int) ≤ idxI a p i
  | [], i, h => by simp [idxI] at h
  | q :: r, i, h => by
    rw [idxI] at h ⊢
    split
    · rename_i he; subst he; simp
    · rename_i hne
      rw [if_neg hne] at h
      obtain ⟨h1, h2⟩ := idxI_get h
      refine ⟨?_, by omega⟩
      have e1 : (idxI a r (i + 1) - (i : Int)).toNat = (idxI a r (i + 1) - ((i + 1 : Nat) : Int)).toNat + 1 := by omega
      rw [e1, List.getElem?_cons_succ]
      exact h1
/-- what goes lies in the row -/
theorem goneR_facts {l : List Nd} (hb : isB l = true) {into pos many from' to : Int} (h : goneR l into pos many = (from', to, true)) :
    from' = pos ∧ into + 1 ≤ pos ∧ pos ≤ to ∧ to ≤ l.length ∧ -1 ≤ into ∧ (into = -1 ∨ blockR l into = true) ∧ 0 ≤ many ∧
    ∃ k : Nat, (placesR l into)[k]? = some pos ∧ (placesR l into)[k + many.toNat]? = some to := by
  rw [goneR] at h
  split at h
  · cases h
  · rename_i hnb
    have hin : into = -1 ∨ blockR l into = true := by
      by_cases h1 : into = -1
      · exact .inl h1
      · right
        cases hbk : blockR l into
        · exact absurd ⟨h1, hbk⟩ hnb
        · rfl
    have hin2 : into = -1 ∨ hasI l into = true := hin.imp id fun h => by simp only [blockR, Bool.and_eq_true] at h; exact h.1
    have hi1 : -1 ≤ into := by
      rcases hin2 with h | h
      · omega
      · have := hasI_iff.1 h; omega
    split at h
    · cases h
    · rename_i hk
      obtain ⟨rfl, rfl, _⟩ : pos = from' ∧ ((placesR l into)[(idxI pos (placesR l into) 0 + many).toNat]?).getD 0 = to ∧ True := by
        simp only [Prod.mk.injEq, and_true] at h; exact ⟨h.1, h.2, trivial⟩
      obtain ⟨a, e, h1, h2, h3, h4, h5, h6⟩ := rowOfI_facts hb hin2
      obtain ⟨hp, hs, hle⟩ := placesR_eq hb hin2 h1
      obtain ⟨g1, g2⟩ := idxI_get (a := pos) (p := placesR l into) (i := 0) (by omega)
      have hr := idxI_range pos (placesR l into) 0
      generalize placesR l into = p at *
      generalize idxI pos p 0 = k at *
      have hk2 : (k + many).toNat < p.length := by omega
      have e1 : (k - ((0 : Nat) : Int)).toNat = k.toNat := by omega
      rw [e1] at g1
      have e2 : (k + many).toNat = k.toNat + many.toNat := by omega
      have hto : p[(k + many).toNat]? = some p[(k + many).toNat] := by simp [hk2]
      have hlt := Srt.lt_of_get hs k.toNat (k + many).toNat _ _ (by omega) g1 hto
      have hge := Srt.ge hs _ (List.mem_of_getElem? g1)
      have htl := hle _ (List.mem_of_getElem? hto)
      rw [hto, Option.getD_some]
      exact ⟨rfl, hge, by omega, by omega, hi1, hin, by omega, k.toNat, g1, by rw [← e2]; exact hto⟩
end Go.Vc
