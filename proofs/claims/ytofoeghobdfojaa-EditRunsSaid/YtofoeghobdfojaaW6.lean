/- Part 6 of the library of this proof. -/
import Derived.Test.YtofoeghobdfojaaW5
set_option linter.all false
namespace Go.Vc
open Go.Proofs
theorem flatten_words {L : List (List Nd)} {B : Nat} (h : ∀ l ∈ L, ∀ x ∈ l, x.words.length ≤ B) : ∀ x ∈ L.flatten, x.words.length ≤ B := fun x hx => by
  obtain ⟨l, hl, hx⟩ := List.mem_flatten.1 hx
  exact h l hl x hx
theorem kidsW_cuts {l : List Nd} {e : Nat} (he : e ≤ l.length) : ∀ (m a : Nat), e - a < m → a ≤ e → rowsB l a e = true → ((kidsW l a e).map fun k => cutL l k (k + szI l k.toNat)).flatten = cutL l a e
  | 0, _, h, _, _ => by omega
  | m + 1, a, h, hae, hr => by
    by_cases h0 : a = e
    · subst h0; rw [kidsW_nil (Nat.le_refl _)]; simp [cutL]
    · have hlt : a < e := by omega
      have hal : a < l.length := by omega
      obtain ⟨y1, y2⟩ := rowsB_ends he hr (Nat.le_refl a) hlt
      obtain ⟨hr2, _⟩ := rowsB_next he hr hlt
      have hse := szI_eq hal
      rw [kidsW_cons hlt hal (by omega), ← hse, List.map_cons, List.flatten_cons, kidsW_cuts he m (a + (szI l a).toNat) (by omega) (by omega) hr2]
      simp only [cutL, Int.toNat_natCast]
      have e1 : ((a : Int) + szI l a).toNat - a = (szI l a).toNat := by omega
      rw [e1]
      have e2 : e - a = (szI l a).toNat + (e - (a + (szI l a).toNat)) := by omega
      rw [e2, List.take_add, List.drop_drop]
theorem treesR_flat {l : List Nd} (hb : isB l = true) : (treesR l).flatten = l := by
  have hrows : rowsB l 0 l.length = true := by simp only [isB, Bool.and_eq_true] at hb; exact hb.2
  rw [treesR, kidsR_top hb]
  have := kidsW_cuts (Nat.le_refl _) (l.length + 1) 0 (by omega) (by omega) hrows
  rw [this]
  simp [cutL]
theorem flatten_take_le {L : List (List Nd)} (n : Nat) : (L.take n).flatten.length ≤ L.flatten.length := by
  conv => rhs; rw [← List.take_append_drop n L, List.flatten_append, List.length_append]
  omega
theorem flatten_drop_le {L : List (List Nd)} (n : Nat) : (L.drop n).flatten.length ≤ L.flatten.length := by
  conv => rhs; rw [← List.take_append_drop n L, List.flatten_append, List.length_append]
  omega
set_option maxRecDepth 100000 in
theorem between_c (a b : List Nd) (ha : Hlf a) (hb : Hlf b) : PFun Try.prog 26 [encNs a, encNs b] (.tup [encE (betweenR a b), .int .i64 (if isB a && isB b then 0 else 4)]) := fun σ => by
  have ha1 := ha.1
  have hb1 := hb.1
  obtain ⟨res, hres⟩ : ∃ v, v = encE (betweenR a b) := ⟨_, rfl⟩
  rw [← hres]
  refine Contract.of_runs Try.func26 e26 k26 (by simp [c26]) ?_
  refine Runs.mix 12 ?_
  (refine Runs.of_step Orc.nothing 300 ?_; simp -implicitDefEqProofs only [BB, Int.reduceEq, Int.reduceNe, Int.reduceLT, Int.reduceLE, Int.reduceGT, Int.reduceGE, Nat.reduceEqDiff, Nat.reduceAdd, Nat.reduceMul, Nat.reduceLeDiff, Nat.reduceSub, Nat.reduceLT, Nat.reduceBEq, ↓reduceIte, reduceCtorEq, ← decide_not, okind, vpre, vpure, intBin, intPre, strBin, strPre, popTo, argSlots, fldV, fldAV, subCells, idxVV, idxAAV, idxSV, sliceV, sliceSV, boundV, szIs, storeOp, storeS, setRowV, eff, extV, buildV, splice, eqSV, fitsL, eqCells, eqCell, minmaxV, capV, binBV, nilCheckV, bytesV, V.cells, V.stays, Orc.nothing, c26])
  refine effR_new fun id1 σ1 s1 a1 f1 => ?_
  simp -implicitDefEqProofs only [BB, Int.reduceEq, Int.reduceNe, Int.reduceLT, Int.reduceLE, Int.reduceGT, Int.reduceGE, Nat.reduceEqDiff, Nat.reduceAdd, Nat.reduceMul, Nat.reduceLeDiff, Nat.reduceSub, Nat.reduceLT, Nat.reduceBEq, ↓reduceIte, reduceCtorEq, ← decide_not, okind, vpre, vpure, intBin, intPre, strBin, strPre, popTo, argSlots, fldV, fldAV, subCells, idxVV, idxAAV, idxSV, sliceV, sliceSV, boundV, szIs, storeOp, storeS, setRowV, eff, extV, buildV, splice, eqSV, fitsL, eqCells, eqCell, minmaxV, capV, binBV, nilCheckV, bytesV, V.cells, V.stays, a1]
  refine Runs.pcall rfl rfl rfl (isv_c a ha.sml.fine _) ?_
  have hzero : (isB a && isB b) = false → RetV (.tup [.agg [.int .i64 0, .int .i64 0, .int .i64 0, .int .i64 0, .nils, .int .i64 0, .int .i64 0, .int .i64 0, .int .i64 0, .int .i64 0, .int .i64 0, .int .i64 0, .int .i64 0, .int .i64 0, .int .i64 0, .int .i64 0, .int .i64 0], .int .i64 4])
      (upd σ1 id1 ⟨39, 17, [.agg [.int .i64 0, .int .i64 0, .int .i64 0, .int .i64 0, .nils, .int .i64 0, .int .i64 0, .int .i64 0, .int .i64 0, .int .i64 0, .int .i64 0, .int .i64 0, .int .i64 0, .int .i64 0, .int .i64 0, .int .i64 0, .int .i64 0]]⟩)
      fun r σ' => r = .tup [res, .int .i64 (if (isB a && isB b) = true then 0 else 4)] ∧ σ' = σ := fun h => by
    have hr : betweenR a b = Ed.zero := by rw [betweenR, h]; rfl
    rw [hr] at hres
    have hsf := s1.updK f1 (o := ⟨39, 17, [.agg [.int .i64 0, .int .i64 0, .int .i64 0, .int .i64 0, .nils, .int .i64 0, .int .i64 0, .int .i64 0, .int .i64 0, .int .i64 0, .int .i64 0, .int .i64 0, .int .i64 0, .int .i64 0, .int .i64 0, .int .i64 0, .int .i64 0]]⟩)
    refine ⟨.tup [encE Ed.zero, .int .i64 4], σ, hsf, Wk.tup ?_, by rw [hres, h]; rfl, rfl⟩
    simp only [WkL]
    exact ⟨wk_edN hsf 0 0 0 0 Sty.zero, Wk.refl hsf _, trivial⟩
  cases hba : isB a
  · (refine Runs.of_step Orc.nothing 300 ?_; simp -implicitDefEqProofs only [BB, Int.reduceEq, Int.reduceNe, Int.reduceLT, Int.reduceLE, Int.reduceGT, Int.reduceGE, Nat.reduceEqDiff, Nat.reduceAdd, Nat.reduceMul, Nat.reduceLeDiff, Nat.reduceSub, Nat.reduceLT, Nat.reduceBEq, ↓reduceIte, reduceCtorEq, ← decide_not, okind, vpre, vpure, intBin, intPre, strBin, strPre, popTo, argSlots, fldV, fldAV, subCells, idxVV, idxAAV, idxSV, sliceV, sliceSV, boundV, szIs, storeOp, storeS, setRowV, eff, extV, buildV, splice, eqSV, fitsL, eqCells, eqCell, minmaxV, capV, binBV, nilCheckV, bytesV, Orc.nothing, a1, V.cells_agg, V.cells_int, V.cells_nils, V.cells_own, V.cells_sl, V.cells_str, V.cells_bool, V.cells_fn, V.cells_ptr, V.cells_rp, V.stays_agg, V.stays_int, V.stays_nils, V.stays_own, V.stays_sl, V.stays_str, V.stays_bool, V.stays_fn, V.stays_ptr, V.stays_rp])
    rw [hba] at hzero
    exact hzero rfl
  · (refine Runs.of_step Orc.nothing 300 ?_; simp -implicitDefEqProofs only [BB, Int.reduceEq, Int.reduceNe, Int.reduceLT, Int.reduceLE, Int.reduceGT, Int.reduceGE, Nat.reduceEqDiff, Nat.reduceAdd, Nat.reduceMul, Nat.reduceLeDiff, Nat.reduceSub, Nat.reduceLT, Nat.reduceBEq, ↓reduceIte, reduceCtorEq, ← decide_not, okind, vpre, vpure, intBin, intPre, strBin, strPre, popTo, argSlots, fldV, fldAV, subCells, idxVV, idxAAV, idxSV, sliceV, sliceSV, boundV, szIs, storeOp, storeS, setRowV, eff, extV, buildV, splice, eqSV, fitsL, eqCells, eqCell, minmaxV, capV, binBV, nilCheckV, bytesV, Orc.nothing, a1, V.cells_agg, V.cells_int, V.cells_nils, V.cells_own, V.cells_sl, V.cells_str, V.cells_bool, V.cells_fn, V.cells_ptr, V.cells_rp, V.stays_agg, V.stays_int, V.stays_nils, V.stays_own, V.stays_sl, V.stays_str, V.stays_bool, V.stays_fn, V.stays_ptr, V.stays_rp])
    refine Runs.pcall rfl rfl rfl (isv_c b hb.sml.fine _) ?_
    rw [hba] at hzero
    cases hbb : isB b
    · (refine Runs.of_step Orc.nothing 300 ?_; simp -implicitDefEqProofs only [BB, Int.reduceEq, Int.reduceNe, Int.reduceLT, Int.reduceLE, Int.reduceGT, Int.reduceGE, Nat.reduceEqDiff, Nat.reduceAdd, Nat.reduceMul, Nat.reduceLeDiff, Nat.reduceSub, Nat.reduceLT, Nat.reduceBEq, ↓reduceIte, reduceCtorEq, ← decide_not, okind, vpre, vpure, intBin, intPre, strBin, strPre, popTo, argSlots, fldV, fldAV, subCells, idxVV, idxAAV, idxSV, sliceV, sliceSV, boundV, szIs, storeOp, storeS, setRowV, eff, extV, buildV, splice, eqSV, fitsL, eqCells, eqCell, minmaxV, capV, binBV, nilCheckV, bytesV, Orc.nothing, a1, V.cells_agg, V.cells_int, V.cells_nils, V.cells_own, V.cells_sl, V.cells_str, V.cells_bool, V.cells_fn, V.cells_ptr, V.cells_rp, V.stays_agg, V.stays_int, V.stays_nils, V.stays_own, V.stays_sl, V.stays_str, V.stays_bool, V.stays_fn, V.stays_ptr, V.stays_rp])
      rw [hbb] at hzero
      exact hzero rfl
    · (refine Runs.of_step Orc.nothing 300 ?_; simp -implicitDefEqProofs only [BB, Int.reduceEq, Int.reduceNe, Int.reduceLT, Int.reduceLE, Int.reduceGT, Int.reduceGE, Nat.reduceEqDiff, Nat.reduceAdd, Nat.reduceMul, Nat.reduceLeDiff, Nat.reduceSub, Nat.reduceLT, Nat.reduceBEq, ↓reduceIte, reduceCtorEq, ← decide_not, okind, vpre, vpure, intBin, intPre, strBin, strPre, popTo, argSlots, fldV, fldAV, subCells, idxVV, idxAAV, idxSV, sliceV, sliceSV, boundV, szIs, storeOp, storeS, setRowV, eff, extV, buildV, splice, eqSV, fitsL, eqCells, eqCell, minmaxV, capV, binBV, nilCheckV, bytesV, Orc.nothing, a1, V.cells_agg, V.cells_int, V.cells_nils, V.cells_own, V.cells_sl, V.cells_str, V.cells_bool, V.cells_fn, V.cells_ptr, V.cells_rp, V.stays_agg, V.stays_int, V.stays_nils, V.stays_own, V.stays_sl, V.stays_str, V.stays_bool, V.stays_fn, V.stays_ptr, V.stays_rp])
      have hr : betweenR a b = betweenC a b := by rw [betweenR, hba, hbb]; rfl
      rw [hr] at hres
      refine Runs.pcall rfl rfl rfl (trees_c a ha.sml.fine hba _) ?_
      (refine Runs.of_step Orc.nothing 300 ?_; simp -implicitDefEqProofs only [BB, Int.reduceEq, Int.reduceNe, Int.reduceLT, Int.reduceLE, Int.reduceGT, Int.reduceGE, Nat.reduceEqDiff, Nat.reduceAdd, Nat.reduceMul, Nat.reduceLeDiff, Nat.reduceSub, Nat.reduceLT, Nat.reduceBEq, ↓reduceIte, reduceCtorEq, ← decide_not, okind, vpre, vpure, intBin, intPre, strBin, strPre, popTo, argSlots, fldV, fldAV, subCells, idxVV, idxAAV, idxSV, sliceV, sliceSV, boundV, szIs, storeOp, storeS, setRowV, eff, extV, buildV, splice, eqSV, fitsL, eqCells, eqCell, minmaxV, capV, binBV, nilCheckV, bytesV, V.cells, V.stays, Orc.nothing, a1])
      refine Runs.pcall rfl rfl rfl (trees_c b hb.sml.fine hbb _) ?_
      (refine Runs.of_step Orc.nothing 300 ?_; simp -implicitDefEqProofs only [BB, Int.reduceEq, Int.reduceNe, Int.reduceLT, Int.reduceLE, Int.reduceGT, Int.reduceGE, Nat.reduceEqDiff, Nat.reduceAdd, Nat.reduceMul, Nat.reduceLeDiff, Nat.reduceSub, Nat.reduceLT, Nat.reduceBEq, ↓reduceIte, reduceCtorEq, ← decide_not, okind, vpre, vpure, intBin, intPre, strBin, strPre, popTo, argSlots, fldV, fldAV, subCells, idxVV, idxAAV, idxSV, sliceV, sliceSV, boundV, szIs, storeOp, storeS, setRowV, eff, extV, buildV, splice, eqSV, fitsL, eqCells, eqCell, minmaxV, capV, binBV, nilCheckV, bytesV, V.cells, V.stays, Orc.nothing, a1])
      have fx := treesR_flat hba
      have fy := treesR_flat hbb
      have lx := treesR_len a
      have ly := treesR_len b
      have mx : ∀ t ∈ treesR a, t.length ≤ 5000 ∧ ∀ x ∈ t, x.words.length ≤ 1000000000 := fun t ht => ⟨by have := (treesR_mem ht).1; omega, fun x hx => ha.2 x ((treesR_mem ht).2 x hx)⟩
      have my : ∀ t ∈ treesR b, t.length ≤ 5000 ∧ ∀ x ∈ t, x.words.length ≤ 1000000000 := fun t ht => ⟨by have := (treesR_mem ht).1; omega, fun x hx => hb.2 x ((treesR_mem ht).2 x hx)⟩
      unfold betweenC at hres
      simp only at hres
      generalize treesR a = x at *
      generalize treesR b = y at *
      have fine : ∀ (L : List (List Nd)) (k : Nat), (∀ t ∈ L, t.length ≤ 5000 ∧ ∀ x ∈ t, x.words.length ≤ 1000000000) → Fine ((L[k]?).getD []) := fun L k hL => by
        cases h : L[k]? with
        | none => exact ⟨by simp, by simp⟩
        | some t => have := hL t (List.mem_of_getElem? h); exact ⟨by simp; omega, fun z hz => by have := this.2 z (by simpa using hz); omega⟩
      refine Runs.pcall rfl rfl rfl (alike_c tellF 56 x y (by omega) (by omega) tellF_c (fun k _ => fine x k mx) (fun k _ => fine y k my) _) ?_
      have hle := alikeR_le tellF x y
      generalize alikeR tellF x y = first at *
      have hsl1 := fun σ => sliceT_pre (σ := σ) (L := x) (s := first) (by omega) (by omega)
      have hsl2 := fun σ => sliceT_from (σ := σ) (L := x) (s := first) (by omega) (by omega)
      have hsl3 := fun σ => sliceT_from (σ := σ) (L := y) (s := first) (by omega) (by omega)
      simp only [Int.toNat_natCast] at hsl1 hsl2 hsl3
      (refine Runs.of_step Orc.nothing 300 ?_; simp -implicitDefEqProofs only [BB, Int.reduceEq, Int.reduceNe, Int.reduceLT, Int.reduceLE, Int.reduceGT, Int.reduceGE, Nat.reduceEqDiff, Nat.reduceAdd, Nat.reduceMul, Nat.reduceLeDiff, Nat.reduceSub, Nat.reduceLT, Nat.reduceBEq, ↓reduceIte, reduceCtorEq, ← decide_not, okind, vpre, vpure, intBin, intPre, strBin, strPre, popTo, argSlots, fldV, fldAV, subCells, idxVV, idxAAV, idxSV, sliceSV, boundV, szIs, storeOp, storeS, setRowV, eff, extV, buildV, splice, eqSV, fitsL, eqCells, eqCell, minmaxV, capV, binBV, nilCheckV, bytesV, V.cells, V.stays, Orc.nothing, a1, hsl1])
      have hcx := concat_c (x.take first) (by simp; omega) (fun t ht => by have := (mx t (List.mem_of_mem_take ht)).1; omega)
      refine Runs.pcall rfl rfl rfl (hcx _) ?_
      (refine Runs.of_step Orc.nothing 300 ?_; simp -implicitDefEqProofs only [BB, Int.reduceEq, Int.reduceNe, Int.reduceLT, Int.reduceLE, Int.reduceGT, Int.reduceGE, Nat.reduceEqDiff, Nat.reduceAdd, Nat.reduceMul, Nat.reduceLeDiff, Nat.reduceSub, Nat.reduceLT, Nat.reduceBEq, ↓reduceIte, reduceCtorEq, ← decide_not, okind, vpre, vpure, intBin, intPre, strBin, strPre, popTo, argSlots, fldV, fldAV, subCells, idxVV, idxAAV, idxSV, sliceSV, boundV, szIs, storeOp, storeS, setRowV, eff, extV, buildV, splice, eqSV, fitsL, eqCells, eqCell, minmaxV, capV, binBV, nilCheckV, bytesV, V.cells, V.stays, Orc.nothing, a1, hsl2, hsl3, lenV_encNs])
      have mx2 := fun t (ht : t ∈ x.drop first) => mx t (List.mem_of_mem_drop ht)
      have my2 := fun t (ht : t ∈ y.drop first) => my t (List.mem_of_mem_drop ht)
      refine Runs.pcall rfl rfl rfl (alike_c tellL 58 (x.drop first) (y.drop first) (by simp; omega) (by simp; omega) tellL_c (fun k _ => fine _ _ mx2) (fun k _ => fine _ _ my2) _) ?_
      have hle2 := alikeR_le tellL (x.drop first) (y.drop first)
      generalize alikeR tellL (x.drop first) (y.drop first) = last at *
      have hly : (y.drop first).length ≤ 5000 := by simp; omega
      have hlx : (x.drop first).length ≤ 5000 := by simp; omega
      have hfy := flatten_drop_le (L := y) first
      generalize hxg : x.drop first = x2 at *
      generalize hyg : y.drop first = y2 at *
      have e1 : (y2.length : Int) - last = ((y2.length - last : Nat) : Int) := by omega
      have hsl4 := fun σ => sliceT_pre (σ := σ) (L := y2) (s := (y2.length : Int) - last) (by omega) (by omega)
      have e2 : ((y2.length : Int) - last).toNat = y2.length - last := by omega
      rw [e2] at hsl4
      (refine Runs.of_step Orc.nothing 300 ?_; simp -implicitDefEqProofs only [BB, Int.reduceEq, Int.reduceNe, Int.reduceLT, Int.reduceLE, Int.reduceGT, Int.reduceGE, Nat.reduceEqDiff, Nat.reduceAdd, Nat.reduceMul, Nat.reduceLeDiff, Nat.reduceSub, Nat.reduceLT, Nat.reduceBEq, ↓reduceIte, reduceCtorEq, ← decide_not, okind, vpre, vpure, intBin, intPre, strBin, strPre, popTo, argSlots, fldV, fldAV, subCells, idxVV, idxAAV, idxSV, sliceSV, boundV, szIs, storeOp, storeS, setRowV, eff, extV, buildV, splice, eqSV, fitsL, eqCells, eqCell, minmaxV, capV, binBV, nilCheckV, bytesV, V.cells, V.stays, Orc.nothing, a1, lenV_encT, hsl4])
      refine ⟨inR_i64 (by omega) (by omega), ?_⟩
      have hcy := concat_c (y2.take (y2.length - last)) (by simp; omega) (fun t ht => by have := (my2 t (List.mem_of_mem_take ht)).1; omega)
      refine Runs.pcall rfl rfl rfl (hcy _) ?_
      (refine Runs.of_step Orc.nothing 300 ?_; simp -implicitDefEqProofs only [BB, Int.reduceEq, Int.reduceNe, Int.reduceLT, Int.reduceLE, Int.reduceGT, Int.reduceGE, Nat.reduceEqDiff, Nat.reduceAdd, Nat.reduceMul, Nat.reduceLeDiff, Nat.reduceSub, Nat.reduceLT, Nat.reduceBEq, ↓reduceIte, reduceCtorEq, ← decide_not, okind, vpre, vpure, intBin, intPre, strBin, strPre, popTo, argSlots, fldV, fldAV, subCells, idxVV, idxAAV, idxSV, sliceV, sliceSV, boundV, szIs, storeOp, storeS, setRowV, eff, extV, buildV, splice, eqSV, fitsL, eqCells, eqCell, minmaxV, capV, binBV, nilCheckV, bytesV, V.cells, V.stays, Orc.nothing, a1, lenV_encT])
      refine ⟨inR_i64 (by omega) (by omega), ?_⟩
      have hsub : Sml (y2.take (y2.length - last)).flatten := ⟨by have := flatten_take_le (L := y2) (y2.length - last); rw [fy] at hfy; omega, flatten_words fun t ht => (my2 t (List.mem_of_mem_take ht)).2⟩
      refine Runs.pcall rfl rfl rfl (own9_c _ hsub _) ?_
      have hsb : ∀ (p m : Int) (s : List Nd), buildV [.int .i64 0, .int .i64 0, .int .i64 0, .int .i64 0, .nils, .int .i64 0, .int .i64 0, .int .i64 0, .int .i64 0, .int .i64 0, .int .i64 0, .int .i64 0, .int .i64 0, .int .i64 0, .int .i64 0, .int .i64 0, .int .i64 0]
          [(0, 1, .int .i64 1), (1, 1, .int .i64 (-1)), (2, 1, .int .i64 p), (3, 1, .int .i64 m), (4, 1, encNs s)] = some [.int .i64 1, .int .i64 (-1), .int .i64 p, .int .i64 m, encNs s, .int .i64 0, .int .i64 0, .int .i64 0, .int .i64 0, .int .i64 0, .int .i64 0, .int .i64 0, .int .i64 0, .int .i64 0, .int .i64 0, .int .i64 0, .int .i64 0] := fun _ _ _ => rfl
      (refine Runs.of_step Orc.nothing 300 ?_; simp -implicitDefEqProofs only [BB, Int.reduceEq, Int.reduceNe, Int.reduceLT, Int.reduceLE, Int.reduceGT, Int.reduceGE, Nat.reduceEqDiff, Nat.reduceAdd, Nat.reduceMul, Nat.reduceLeDiff, Nat.reduceSub, Nat.reduceLT, Nat.reduceBEq, ↓reduceIte, reduceCtorEq, ← decide_not, okind, vpre, vpure, intBin, intPre, strBin, strPre, popTo, argSlots, fldV, fldAV, subCells, idxVV, idxAAV, idxSV, sliceV, sliceSV, boundV, szIs, storeOp, storeS, setRowV, eff, extV, splice, eqSV, fitsL, eqCells, eqCell, minmaxV, capV, binBV, nilCheckV, bytesV, Orc.nothing, a1, encNs_cells, encNs_stays, V.cells_agg, V.cells_int, V.cells_nils, V.cells_own, V.cells_sl, V.cells_str, V.cells_bool, V.cells_fn, V.cells_ptr, V.cells_rp, V.stays_agg, V.stays_int, V.stays_nils, V.stays_own, V.stays_sl, V.stays_str, V.stays_bool, V.stays_fn, V.stays_ptr, V.stays_rp, hsb])
      exact RetV.pure (s1.updK f1) (by rw [hres]; rfl)
end Go.Vc
namespace Go.Vc
open Go.Proofs
def tabB : Tr (Option VFn) := setP none (some c39) 39 tabA
theorem ok39 : okFn c39 = true := by kernel_rfl
theorem tabB_ok : CodeOk Try.prog (fun f => getP none f tabB) := CodeOk.add tabA_ok ok39 k39 Try.func39 e39
def mono (w h : Int) : Nd := ⟨3, 1, Sty.zero, 0, 0, [], 0, w, h⟩
def plainS : Sty := ⟨0, 0, 0, 0, 0, 2, 2, 0, 0, 0, 0, 0⟩
def blk (n : Int) : Nd := ⟨1, n, plainS, 0, 0, [], 0, 0, 0⟩
def s123 : List UInt8 := [123, 49, 32, 49, 125, 123, 50, 32, 50, 125, 123, 51, 32, 51, 125]
def s45 : List UInt8 := [123, 52, 32, 52, 125, 123, 53, 32, 53, 125]
def s13 : List UInt8 := [123, 49, 32, 49, 125, 123, 51, 32, 51, 125]
def s1453 : List UInt8 := [123, 49, 32, 49, 125, 123, 52, 32, 52, 125, 123, 53, 32, 53, 125, 123, 51, 32, 51, 125]
def s2 : List UInt8 := [123, 50, 32, 50, 125]
def sb1 : List UInt8 := [91, 123, 49, 32, 49, 125, 93]
def sb12 : List UInt8 := [91, 123, 49, 32, 49, 125, 123, 50, 32, 50, 125, 93]
theorem of123 : PFun Try.prog 39 [.str s123] (encNs [mono 1 1, mono 2 2, mono 3 3]) := PFun.of_evF (fuel := 1000) tabB_ok rfl (by kernel_rfl)
theorem of45 : PFun Try.prog 39 [.str s45] (encNs [mono 4 4, mono 5 5]) := PFun.of_evF (fuel := 1000) tabB_ok rfl (by kernel_rfl)
theorem of13 : PFun Try.prog 39 [.str s13] (encNs [mono 1 1, mono 3 3]) := PFun.of_evF (fuel := 1000) tabB_ok rfl (by kernel_rfl)
theorem of1453 : PFun Try.prog 39 [.str s1453] (encNs [mono 1 1, mono 4 4, mono 5 5, mono 3 3]) := PFun.of_evF (fuel := 1000) tabB_ok rfl (by kernel_rfl)
theorem of2 : PFun Try.prog 39 [.str s2] (encNs [mono 2 2]) := PFun.of_evF (fuel := 1000) tabB_ok rfl (by kernel_rfl)
theorem ofb1 : PFun Try.prog 39 [.str sb1] (encNs [blk 2, mono 1 1]) := PFun.of_evF (fuel := 1000) tabB_ok rfl (by kernel_rfl)
theorem ofb12 : PFun Try.prog 39 [.str sb12] (encNs [blk 3, mono 1 1, mono 2 2]) := PFun.of_evF (fuel := 1000) tabB_ok rfl (by kernel_rfl)
theorem of0 : PFun Try.prog 39 [.str []] (encNs []) := PFun.of_evF (fuel := 1000) tabB_ok rfl (by kernel_rfl)
theorem plain_c : PFun Try.prog 43 [] (.agg plainS.cells) := PFun.of_evF (fuel := 1000) tabB_ok rfl (by kernel_rfl)
set_option maxRecDepth 100000 in
theorem swapS_c (s : List UInt8) (L : List Nd) (into p many : Int) (h : PFun Try.prog 39 [.str s] (encNs L)) : PFun Try.prog 40 [vI into, vI p, vI many, .str s] (encE ⟨1, into, p, many, L, Sty.zero⟩) := fun σ => by
  refine Contract.of_runs Try.func40 e40 k40 (by simp [c40]) ?_
  refine Runs.mix 9 ?_
  (refine Runs.of_step Orc.nothing 300 ?_; simp -implicitDefEqProofs only [BB, Int.reduceEq, Int.reduceNe, Int.reduceLT, Int.reduceLE, Int.reduceGT, Int.reduceGE, Nat.reduceEqDiff, Nat.reduceAdd, Nat.reduceMul, Nat.reduceLeDiff, Nat.reduceSub, Nat.reduceLT, Nat.reduceBEq, ↓reduceIte, reduceCtorEq, ← decide_not, okind, vpre, vpure, intBin, intPre, strBin, strPre, popTo, argSlots, fldV, fldAV, subCells, idxVV, idxAAV, idxSV, sliceV, sliceSV, boundV, szIs, storeOp, storeS, setRowV, eff, extV, buildV, splice, eqSV, fitsL, eqCells, eqCell, minmaxV, capV, binBV, nilCheckV, bytesV, V.cells, V.stays, Orc.nothing, c40])
  refine effR_new fun id1 σ1 s1 a1 f1 => ?_
  simp -implicitDefEqProofs only [BB, Int.reduceEq, Int.reduceNe, Int.reduceLT, Int.reduceLE, Int.reduceGT, Int.reduceGE, Nat.reduceEqDiff, Nat.reduceAdd, Nat.reduceMul, Nat.reduceLeDiff, Nat.reduceSub, Nat.reduceLT, Nat.reduceBEq, ↓reduceIte, reduceCtorEq, ← decide_not, okind, vpre, vpure, intBin, intPre, strBin, strPre, popTo, argSlots, fldV, fldAV, subCells, idxVV, idxAAV, idxSV, sliceV, sliceSV, boundV, szIs, storeOp, storeS, setRowV, eff, extV, buildV, splice, eqSV, fitsL, eqCells, eqCell, minmaxV, capV, binBV, nilCheckV, bytesV, V.cells, V.stays, a1]
  refine Runs.pcall rfl rfl rfl (h _) ?_
  have hsb : ∀ (i p m : Int) (s : List Nd), buildV [.int .i64 0, .int .i64 0, .int .i64 0, .int .i64 0, .nils, .int .i64 0, .int .i64 0, .int .i64 0, .int .i64 0, .int .i64 0, .int .i64 0, .int .i64 0, .int .i64 0, .int .i64 0, .int .i64 0, .int .i64 0, .int .i64 0]
      [(0, 1, .int .i64 1), (1, 1, vI i), (2, 1, vI p), (3, 1, vI m), (4, 1, encNs s)] = some [.int .i64 1, .int .i64 i, .int .i64 p, .int .i64 m, encNs s, .int .i64 0, .int .i64 0, .int .i64 0, .int .i64 0, .int .i64 0, .int .i64 0, .int .i64 0, .int .i64 0, .int .i64 0, .int .i64 0, .int .i64 0, .int .i64 0] := fun _ _ _ _ => rfl
  (refine Runs.of_step Orc.nothing 300 ?_; simp -implicitDefEqProofs only [BB, Int.reduceEq, Int.reduceNe, Int.reduceLT, Int.reduceLE, Int.reduceGT, Int.reduceGE, Nat.reduceEqDiff, Nat.reduceAdd, Nat.reduceMul, Nat.reduceLeDiff, Nat.reduceSub, Nat.reduceLT, Nat.reduceBEq, ↓reduceIte, reduceCtorEq, ← decide_not, okind, vpre, vpure, intBin, intPre, strBin, strPre, popTo, argSlots, fldV, fldAV, subCells, idxVV, idxAAV, idxSV, sliceV, sliceSV, boundV, szIs, storeOp, storeS, setRowV, eff, extV, splice, eqSV, fitsL, eqCells, eqCell, minmaxV, capV, binBV, nilCheckV, bytesV, Orc.nothing, a1, encNs_cells, encNs_stays, V.cells_agg, V.cells_int, V.cells_nils, V.cells_own, V.cells_sl, V.cells_str, V.cells_bool, V.cells_fn, V.cells_ptr, V.cells_rp, V.stays_agg, V.stays_int, V.stays_nils, V.stays_own, V.stays_sl, V.stays_str, V.stays_bool, V.stays_fn, V.stays_ptr, V.stays_rp, hsb])
  exact RetV.pure (s1.updK f1) rfl
end Go.Vc
namespace Go.Vc
open Go.Proofs
set_option maxRecDepth 100000 in
theorem does_c (s w : List UInt8) (L Lw : List Nd) (x : Ed) (h : PFun Try.prog 39 [.str s] (encNs L)) (hw : PFun Try.prog 39 [.str w] (encNs Lw)) (hl : Hlf L) (hx : Hlf x.sub) (hlw : Fine Lw) :
    PFun Try.prog 41 [.str s, encE x, .str w] (.bool (decide (doR L x = some Lw))) := fun σ => by
  have hdc := do_c L x hl hx
  refine Contract.of_runs Try.func41 e41 k41 (by simp [c41]) ?_
  refine Runs.mix 9 ?_
  obtain ⟨cs, hcs⟩ : ∃ v, v = encE x := ⟨_, rfl⟩
  have hcc : cs.cells.length = 17 := by rw [hcs]; rfl
  have hcst : cs.stays = true := by rw [hcs]; rfl
  have hcl : V.agg cs.cells = cs := by rw [hcs]; rfl
  rw [← hcs] at hdc ⊢
  (refine Runs.of_step Orc.nothing 300 ?_; simp -implicitDefEqProofs only [BB, Int.reduceEq, Int.reduceNe, Int.reduceLT, Int.reduceLE, Int.reduceGT, Int.reduceGE, Nat.reduceEqDiff, Nat.reduceAdd, Nat.reduceMul, Nat.reduceLeDiff, Nat.reduceSub, Nat.reduceLT, Nat.reduceBEq, ↓reduceIte, reduceCtorEq, ← decide_not, okind, vpre, vpure, intBin, intPre, strBin, strPre, popTo, argSlots, fldV, fldAV, subCells, idxVV, idxAAV, idxSV, sliceV, sliceSV, boundV, szIs, storeOp, storeS, setRowV, eff, extV, buildV, splice, eqSV, fitsL, eqCells, eqCell, minmaxV, capV, binBV, nilCheckV, bytesV, Orc.nothing, c41, hcc, hcst, V.cells_agg, V.cells_int, V.cells_nils, V.cells_own, V.cells_sl, V.cells_str, V.cells_bool, V.cells_fn, V.cells_ptr, V.cells_rp, V.stays_agg, V.stays_int, V.stays_nils, V.stays_own, V.stays_sl, V.stays_str, V.stays_bool, V.stays_fn, V.stays_ptr, V.stays_rp])
  refine effR_new fun id1 σ1 s1 a1 f1 => ?_
  simp -implicitDefEqProofs only [BB, Int.reduceEq, Int.reduceNe, Int.reduceLT, Int.reduceLE, Int.reduceGT, Int.reduceGE, Nat.reduceEqDiff, Nat.reduceAdd, Nat.reduceMul, Nat.reduceLeDiff, Nat.reduceSub, Nat.reduceLT, Nat.reduceBEq, ↓reduceIte, reduceCtorEq, ← decide_not, okind, vpre, vpure, intBin, intPre, strBin, strPre, popTo, argSlots, fldV, fldAV, subCells, idxVV, idxAAV, idxSV, sliceV, sliceSV, boundV, szIs, storeOp, storeS, setRowV, eff, extV, buildV, splice, eqSV, fitsL, eqCells, eqCell, minmaxV, capV, binBV, nilCheckV, bytesV, V.cells, V.stays, a1]
  refine Go.pcall rfl h ?_
  (refine Go.of_step Orc.nothing 300 _ _ ?_; simp -implicitDefEqProofs only [BB, Int.reduceEq, Int.reduceNe, Int.reduceLT, Int.reduceLE, Int.reduceGT, Int.reduceGE, Nat.reduceEqDiff, Nat.reduceAdd, Nat.reduceMul, Nat.reduceLeDiff, Nat.reduceSub, Nat.reduceLT, Nat.reduceBEq, ↓reduceIte, reduceCtorEq, ← decide_not, okind, vpre, vpure, intBin, intPre, strBin, strPre, popTo, argSlots, fldV, fldAV, subCells, idxVV, idxAAV, idxSV, sliceV, sliceSV, boundV, szIs, storeOp, storeS, setRowV, eff, extV, buildV, splice, eqSV, fitsL, eqCells, eqCell, minmaxV, capV, binBV, nilCheckV, bytesV, Orc.nothing, a1, hcc, hcl, V.cells_agg, V.cells_int, V.cells_nils, V.cells_own, V.cells_sl, V.cells_str, V.cells_bool, V.cells_fn, V.cells_ptr, V.cells_rp, V.stays_agg, V.stays_int, V.stays_nils, V.stays_own, V.stays_sl, V.stays_str, V.stays_bool, V.stays_fn, V.stays_ptr, V.stays_rp])
  refine Go.pcall rfl hdc ?_
  have hsml := fun out (ho : doR L x = some out) => (outR_sml hl (doR_some ho).1 hx (doR_some ho).2.2.1)
  cases hd : doR L x with
  | none =>
    (refine Go.of_step Orc.nothing 300 _ _ ?_; simp -implicitDefEqProofs only [BB, Int.reduceEq, Int.reduceNe, Int.reduceLT, Int.reduceLE, Int.reduceGT, Int.reduceGE, Nat.reduceEqDiff, Nat.reduceAdd, Nat.reduceMul, Nat.reduceLeDiff, Nat.reduceSub, Nat.reduceLT, Nat.reduceBEq, ↓reduceIte, reduceCtorEq, ← decide_not, okind, vpre, vpure, intBin, intPre, strBin, strPre, popTo, argSlots, fldV, fldAV, subCells, idxVV, idxAAV, idxSV, sliceV, sliceSV, boundV, szIs, storeOp, storeS, setRowV, eff, extV, buildV, splice, eqSV, fitsL, eqCells, eqCell, minmaxV, capV, binBV, nilCheckV, bytesV, V.cells, V.stays, Orc.nothing, errV, optV, Option.isSome_none, Option.getD_none])
    exact RetV.pure s1 (by simp)
  | some out =>
    (refine Go.of_step Orc.nothing 300 _ _ ?_; simp -implicitDefEqProofs only [BB, Int.reduceEq, Int.reduceNe, Int.reduceLT, Int.reduceLE, Int.reduceGT, Int.reduceGE, Nat.reduceEqDiff, Nat.reduceAdd, Nat.reduceMul, Nat.reduceLeDiff, Nat.reduceSub, Nat.reduceLT, Nat.reduceBEq, ↓reduceIte, reduceCtorEq, ← decide_not, okind, vpre, vpure, intBin, intPre, strBin, strPre, popTo, argSlots, fldV, fldAV, subCells, idxVV, idxAAV, idxSV, sliceV, sliceSV, boundV, szIs, storeOp, storeS, setRowV, eff, extV, buildV, splice, eqSV, fitsL, eqCells, eqCell, minmaxV, capV, binBV, nilCheckV, bytesV, V.cells, V.stays, Orc.nothing, errV, optV, Option.isSome_some, Option.getD_some])
    refine Runs.pcall rfl rfl rfl (hw _) ?_
    (refine Runs.of_step Orc.nothing 300 ?_; simp -implicitDefEqProofs only [BB, Int.reduceEq, Int.reduceNe, Int.reduceLT, Int.reduceLE, Int.reduceGT, Int.reduceGE, Nat.reduceEqDiff, Nat.reduceAdd, Nat.reduceMul, Nat.reduceLeDiff, Nat.reduceSub, Nat.reduceLT, Nat.reduceBEq, ↓reduceIte, reduceCtorEq, ← decide_not, okind, vpre, vpure, intBin, intPre, strBin, strPre, popTo, argSlots, fldV, fldAV, subCells, idxVV, idxAAV, idxSV, sliceV, sliceSV, boundV, szIs, storeOp, storeS, setRowV, eff, extV, buildV, splice, eqSV, fitsL, eqCells, eqCell, minmaxV, capV, binBV, nilCheckV, bytesV, V.cells, V.stays, Orc.nothing])
    refine Runs.pcall rfl rfl rfl (same5_c out Lw (hsml out hd).fine hlw _) ?_
    (refine Runs.of_step Orc.nothing 300 ?_; simp -implicitDefEqProofs only [BB, Int.reduceEq, Int.reduceNe, Int.reduceLT, Int.reduceLE, Int.reduceGT, Int.reduceGE, Nat.reduceEqDiff, Nat.reduceAdd, Nat.reduceMul, Nat.reduceLeDiff, Nat.reduceSub, Nat.reduceLT, Nat.reduceBEq, ↓reduceIte, reduceCtorEq, ← decide_not, okind, vpre, vpure, intBin, intPre, strBin, strPre, popTo, argSlots, fldV, fldAV, subCells, idxVV, idxAAV, idxSV, sliceV, sliceSV, boundV, szIs, storeOp, storeS, setRowV, eff, extV, buildV, splice, eqSV, fitsL, eqCells, eqCell, minmaxV, capV, binBV, nilCheckV, bytesV, V.cells, V.stays, Orc.nothing])
    exact RetV.pure s1 (by simp)
set_option maxRecDepth 100000 in
theorem none_c (s : List UInt8) (L : List Nd) (x : Ed) (h : PFun Try.prog 39 [.str s] (encNs L)) (hl : Hlf L) (hx : Hlf x.sub) (hd : doR L x = none) :
    PFun Try.prog 42 [.str s, encE x] (.bool true) := fun σ => by
  have hdc := do_c L x hl hx
  have hbc := back_c L x hl hx
  rw [backC, hd] at hbc
  rw [hd] at hdc
  simp only [errV, optV, Option.isSome_none, Option.getD_none, Bool.false_eq_true, if_false] at hdc hbc
  obtain ⟨cs, hcs⟩ : ∃ v, v = encE x := ⟨_, rfl⟩
  have hcc : cs.cells.length = 17 := by rw [hcs]; rfl
  have hcst : cs.stays = true := by rw [hcs]; rfl
  have hcl : V.agg cs.cells = cs := by rw [hcs]; rfl
  rw [← hcs] at hdc hbc ⊢
  refine Contract.of_runs Try.func42 e42 k42 (by simp [c42]) ?_
  refine Runs.mix 9 ?_
  (refine Runs.of_step Orc.nothing 300 ?_; simp -implicitDefEqProofs only [BB, Int.reduceEq, Int.reduceNe, Int.reduceLT, Int.reduceLE, Int.reduceGT, Int.reduceGE, Nat.reduceEqDiff, Nat.reduceAdd, Nat.reduceMul, Nat.reduceLeDiff, Nat.reduceSub, Nat.reduceLT, Nat.reduceBEq, ↓reduceIte, reduceCtorEq, ← decide_not, okind, vpre, vpure, intBin, intPre, strBin, strPre, popTo, argSlots, fldV, fldAV, subCells, idxVV, idxAAV, idxSV, sliceV, sliceSV, boundV, szIs, storeOp, storeS, setRowV, eff, extV, buildV, splice, eqSV, fitsL, eqCells, eqCell, minmaxV, capV, binBV, nilCheckV, bytesV, Orc.nothing, c42, hcc, hcst, V.cells_agg, V.cells_int, V.cells_nils, V.cells_own, V.cells_sl, V.cells_str, V.cells_bool, V.cells_fn, V.cells_ptr, V.cells_rp, V.stays_agg, V.stays_int, V.stays_nils, V.stays_own, V.stays_sl, V.stays_str, V.stays_bool, V.stays_fn, V.stays_ptr, V.stays_rp])
  refine effR_new fun id1 σ1 s1 a1 f1 => ?_
  simp -implicitDefEqProofs only [BB, Int.reduceEq, Int.reduceNe, Int.reduceLT, Int.reduceLE, Int.reduceGT, Int.reduceGE, Nat.reduceEqDiff, Nat.reduceAdd, Nat.reduceMul, Nat.reduceLeDiff, Nat.reduceSub, Nat.reduceLT, Nat.reduceBEq, ↓reduceIte, reduceCtorEq, ← decide_not, okind, vpre, vpure, intBin, intPre, strBin, strPre, popTo, argSlots, fldV, fldAV, subCells, idxVV, idxAAV, idxSV, sliceV, sliceSV, boundV, szIs, storeOp, storeS, setRowV, eff, extV, buildV, splice, eqSV, fitsL, eqCells, eqCell, minmaxV, capV, binBV, nilCheckV, bytesV, V.cells, V.stays, a1]
  refine Go.pcall rfl h ?_
  (refine Go.of_step Orc.nothing 300 _ _ ?_; simp -implicitDefEqProofs only [BB, Int.reduceEq, Int.reduceNe, Int.reduceLT, Int.reduceLE, Int.reduceGT, Int.reduceGE, Nat.reduceEqDiff, Nat.reduceAdd, Nat.reduceMul, Nat.reduceLeDiff, Nat.reduceSub, Nat.reduceLT, Nat.reduceBEq, ↓reduceIte, reduceCtorEq, ← decide_not, okind, vpre, vpure, intBin, intPre, strBin, strPre, popTo, argSlots, fldV, fldAV, subCells, idxVV, idxAAV, idxSV, sliceV, sliceSV, boundV, szIs, storeOp, storeS, setRowV, eff, extV, buildV, splice, eqSV, fitsL, eqCells, eqCell, minmaxV, capV, binBV, nilCheckV, bytesV, Orc.nothing, a1, hcc, hcl, V.cells_agg, V.cells_int, V.cells_nils, V.cells_own, V.cells_sl, V.cells_str, V.cells_bool, V.cells_fn, V.cells_ptr, V.cells_rp, V.stays_agg, V.stays_int, V.stays_nils, V.stays_own, V.stays_sl, V.stays_str, V.stays_bool, V.stays_fn, V.stays_ptr, V.stays_rp])
  refine Go.pcall rfl hdc ?_
  (refine Go.of_step Orc.nothing 300 _ _ ?_; simp -implicitDefEqProofs only [BB, Int.reduceEq, Int.reduceNe, Int.reduceLT, Int.reduceLE, Int.reduceGT, Int.reduceGE, Nat.reduceEqDiff, Nat.reduceAdd, Nat.reduceMul, Nat.reduceLeDiff, Nat.reduceSub, Nat.reduceLT, Nat.reduceBEq, ↓reduceIte, reduceCtorEq, ← decide_not, okind, vpre, vpure, intBin, intPre, strBin, strPre, popTo, argSlots, fldV, fldAV, subCells, idxVV, idxAAV, idxSV, sliceV, sliceSV, boundV, szIs, storeOp, storeS, setRowV, eff, extV, buildV, splice, eqSV, fitsL, eqCells, eqCell, minmaxV, capV, binBV, nilCheckV, bytesV, V.cells, V.stays, Orc.nothing])
  refine Go.pcall rfl h ?_
  (refine Go.of_step Orc.nothing 300 _ _ ?_; simp -implicitDefEqProofs only [BB, Int.reduceEq, Int.reduceNe, Int.reduceLT, Int.reduceLE, Int.reduceGT, Int.reduceGE, Nat.reduceEqDiff, Nat.reduceAdd, Nat.reduceMul, Nat.reduceLeDiff, Nat.reduceSub, Nat.reduceLT, Nat.reduceBEq, ↓reduceIte, reduceCtorEq, ← decide_not, okind, vpre, vpure, intBin, intPre, strBin, strPre, popTo, argSlots, fldV, fldAV, subCells, idxVV, idxAAV, idxSV, sliceV, sliceSV, boundV, szIs, storeOp, storeS, setRowV, eff, extV, buildV, splice, eqSV, fitsL, eqCells, eqCell, minmaxV, capV, binBV, nilCheckV, bytesV, Orc.nothing, a1, hcc, hcl, V.cells_agg, V.cells_int, V.cells_nils, V.cells_own, V.cells_sl, V.cells_str, V.cells_bool, V.cells_fn, V.cells_ptr, V.cells_rp, V.stays_agg, V.stays_int, V.stays_nils, V.stays_own, V.stays_sl, V.stays_str, V.stays_bool, V.stays_fn, V.stays_ptr, V.stays_rp])
  refine Go.pcall rfl hbc ?_
  (refine Go.of_step Orc.nothing 300 _ _ ?_; simp -implicitDefEqProofs only [BB, Int.reduceEq, Int.reduceNe, Int.reduceLT, Int.reduceLE, Int.reduceGT, Int.reduceGE, Nat.reduceEqDiff, Nat.reduceAdd, Nat.reduceMul, Nat.reduceLeDiff, Nat.reduceSub, Nat.reduceLT, Nat.reduceBEq, ↓reduceIte, reduceCtorEq, ← decide_not, okind, vpre, vpure, intBin, intPre, strBin, strPre, popTo, argSlots, fldV, fldAV, subCells, idxVV, idxAAV, idxSV, sliceV, sliceSV, boundV, szIs, storeOp, storeS, setRowV, eff, extV, buildV, splice, eqSV, fitsL, eqCells, eqCell, minmaxV, capV, binBV, nilCheckV, bytesV, V.cells, V.stays, Orc.nothing])
  refine effD_new fun id2 σ2 s2 a2 f2 => ?_
  simp -implicitDefEqProofs only [BB, Int.reduceEq, Int.reduceNe, Int.reduceLT, Int.reduceLE, Int.reduceGT, Int.reduceGE, Nat.reduceEqDiff, Nat.reduceAdd, Nat.reduceMul, Nat.reduceLeDiff, Nat.reduceSub, Nat.reduceLT, Nat.reduceBEq, ↓reduceIte, reduceCtorEq, ← decide_not, okind, vpre, vpure, intBin, intPre, strBin, strPre, popTo, argSlots, fldV, fldAV, subCells, idxVV, idxAAV, idxSV, sliceV, sliceSV, boundV, szIs, storeOp, storeS, setRowV, eff, extV, buildV, splice, eqSV, fitsL, eqCells, eqCell, minmaxV, capV, binBV, nilCheckV, bytesV, a2, V.cells_agg, V.cells_int, V.cells_nils, V.cells_own, V.cells_sl, V.cells_str, V.cells_bool, V.cells_fn, V.cells_ptr, V.cells_rp, V.stays_agg, V.stays_int, V.stays_nils, V.stays_own, V.stays_sl, V.stays_str, V.stays_bool, V.stays_fn, V.stays_ptr, V.stays_rp, encE, Ed.cells, Ed.zero, Sty.zero, encNs_cells, encNs_stays, lenV_encNs]
  exact And.intro (fun _ => RetV.pure ((s1.trans s2).updK (s1.none f2)) rfl) (fun h => absurd rfl h)
section
variable {P : Program} {n : Nat} {st : St} {Q : St → Prop} {k : List It}
theorem Go.pcallG {i : VIns} {l : List VIns} {fx : VX} {xs : List VX} {f : FuncId} {caps : List V} {v : V} (hw : wantV st.s i.g = some true) (ho : i.op = .call fx xs)
    (hf : fx.ev st.s = .fn f caps) (hc : PFun P f (xs.map (·.ev st.s) ++ caps) v) (h : Go P n (.d l k) ⟨putO st.s i.dst v, st.σ⟩ Q) : Go P n (.d (i :: l) k) st Q := by
  refine T_true hw ?_
  rw [ho]
  exact ⟨f, caps, v, hf, fun σ1 _ => hc σ1, h⟩
end
theorem hlf_small {l : List Nd} (h : l.length ≤ 5000) (h2 : l.all (fun x => decide (x.words.length ≤ 1000000000)) = true) : Hlf l := ⟨h, fun x hx => by simpa using List.all_eq_true.1 h2 x hx⟩
def L123 : List Nd := [mono 1 1, mono 2 2, mono 3 3]
def E45 : Ed := ⟨1, -1, 1, 1, [mono 4 4, mono 5 5], Sty.zero⟩
def B45 : Ed := ⟨1, -1, 1, 2, [mono 2 2], Sty.zero⟩
def L13 : List Nd := [mono 1 1, mono 3 3]
def Bt : Ed := ⟨1, -1, 1, 1, [], Sty.zero⟩
def Lb1 : List Nd := [blk 2, mono 1 1]
def Lb12 : List Nd := [blk 3, mono 1 1, mono 2 2]
def E2 : Ed := ⟨1, 0, 2, 0, [mono 2 2], Sty.zero⟩
def E3 : Ed := ⟨1, -1, 1, 0, [], Sty.zero⟩
def E4 : Ed := ⟨1, 0, 3, 0, [], Sty.zero⟩
def E5 : Ed := ⟨2, 0, 1, 0, [], plainS⟩
set_option maxRecDepth 100000 in
theorem x1 : doR L123 E45 = some [mono 1 1, mono 4 4, mono 5 5, mono 3 3] := by rw [doR_F]; decide +kernel
set_option maxRecDepth 100000 in
theorem x2 : backC L123 E45 = B45 := by rw [backC, x1]; decide +kernel
set_option maxRecDepth 100000 in
theorem x3 : betweenR L123 L13 = Bt ∧ (isB L123 && isB L13) = true := by rw [betweenR, isB_F, isB_F]; decide +kernel
set_option maxRecDepth 100000 in
theorem x4 : doR Lb1 E2 = some Lb12 := by rw [doR_F]; decide +kernel
set_option maxRecDepth 100000 in
theorem x5 : doR Lb1 E3 = none ∧ doR Lb1 E4 = none ∧ doR Lb1 E5 = none := by simp only [doR_F]; decide +kernel
theorem hl123 : Hlf L123 := hlf_small (by decide) (by decide)
theorem hl13 : Hlf L13 := hlf_small (by decide) (by decide)
theorem hlb1 : Hlf Lb1 := hlf_small (by decide) (by decide)
set_option maxRecDepth 100000 in
theorem awake36_c : PFun Try.prog 19 [] (.bool true) := fun σ => by
  have d1 := back_c L123 E45 hl123 (hlf_small (by decide) (by decide))
  rw [x1, x2] at d1
  have d2 := between_c L123 L13 hl123 hl13
  rw [x3.1, x3.2] at d2
  simp only [if_true, errV, Option.isSome_some] at d1 d2
  have d3 := does_c s123 s1453 L123 [mono 1 1, mono 4 4, mono 5 5, mono 3 3] E45 of123 of1453 hl123 (hlf_small (by decide) (by decide)) (hlf_small (by decide) (by decide)).sml.fine
  rw [x1] at d3
  have d4 := sameE_c B45 B45 (hlf_small (by decide) (by decide)).sml.fine (hlf_small (by decide) (by decide)).sml.fine
  have d5 := does_c sb1 sb12 Lb1 Lb12 E2 ofb1 ofb12 hlb1 (hlf_small (by decide) (by decide)) (hlf_small (by decide) (by decide)).sml.fine
  rw [x4] at d5
  have d6 := none_c sb1 Lb1 E3 ofb1 hlb1 (hlf_small (by decide) (by decide)) x5.1
  have d7 := none_c sb1 Lb1 E4 ofb1 hlb1 (hlf_small (by decide) (by decide)) x5.2.1
  have d8 := none_c sb1 Lb1 E5 ofb1 hlb1 (hlf_small (by decide) (by decide)) x5.2.2
  have d9 := sameE_c Bt Bt (hlf_small (by decide) (by decide)).sml.fine (hlf_small (by decide) (by decide)).sml.fine
  simp only [decide_true] at d3 d4 d5 d9
  obtain ⟨e1, he1⟩ : ∃ v, v = encE B45 := ⟨_, rfl⟩
  have c1 : e1.cells.length = 17 := by rw [he1]; rfl
  have t1 : e1.stays = true := by rw [he1]; rfl
  have a1' : V.agg e1.cells = e1 := by rw [he1]; rfl
  obtain ⟨e2, he2⟩ : ∃ v, v = encE Bt := ⟨_, rfl⟩
  have c2 : e2.cells.length = 17 := by rw [he2]; rfl
  have t2 : e2.stays = true := by rw [he2]; rfl
  have a2' : V.agg e2.cells = e2 := by rw [he2]; rfl
  have w1 := swapS_c s45 _ (-1) 1 1 of45
  have w2 := swapS_c s2 _ (-1) 1 2 of2
  have w3 := swapS_c s2 _ 0 2 0 of2
  have w4 := swapS_c [] _ (-1) 1 0 of0
  have w5 := swapS_c [] _ 0 3 0 of0
  have w6 := swapS_c [] _ (-1) 1 1 of0
  change PFun Try.prog 40 _ (encE B45) at w2
  change PFun Try.prog 40 _ (encE Bt) at w6
  rw [← he1] at d1 d4 w2
  rw [← he2] at d2 d9 w6
  refine Contract.of_runs Try.func19 e19 k19 (by simp [c19]) ?_
  refine Runs.mix 5 ?_
  (refine Runs.of_step Orc.nothing 300 ?_; simp -implicitDefEqProofs only [BB, Int.reduceEq, Int.reduceNe, Int.reduceLT, Int.reduceLE, Int.reduceGT, Int.reduceGE, Nat.reduceEqDiff, Nat.reduceAdd, Nat.reduceMul, Nat.reduceLeDiff, Nat.reduceSub, Nat.reduceLT, Nat.reduceBEq, ↓reduceIte, reduceCtorEq, ← decide_not, okind, vpre, vpure, intBin, intPre, strBin, strPre, popTo, argSlots, fldV, fldAV, subCells, idxVV, idxAAV, idxSV, sliceV, sliceSV, boundV, szIs, storeOp, storeS, setRowV, eff, extV, buildV, splice, eqSV, fitsL, eqCells, eqCell, minmaxV, capV, binBV, nilCheckV, bytesV, V.cells, V.stays, Orc.nothing, c19])
  refine Runs.pcall rfl rfl rfl (of123 _) ?_
  (refine Runs.of_step Orc.nothing 300 ?_; simp -implicitDefEqProofs only [BB, Int.reduceEq, Int.reduceNe, Int.reduceLT, Int.reduceLE, Int.reduceGT, Int.reduceGE, Nat.reduceEqDiff, Nat.reduceAdd, Nat.reduceMul, Nat.reduceLeDiff, Nat.reduceSub, Nat.reduceLT, Nat.reduceBEq, ↓reduceIte, reduceCtorEq, ← decide_not, okind, vpre, vpure, intBin, intPre, strBin, strPre, popTo, argSlots, fldV, fldAV, subCells, idxVV, idxAAV, idxSV, sliceV, sliceSV, boundV, szIs, storeOp, storeS, setRowV, eff, extV, buildV, splice, eqSV, fitsL, eqCells, eqCell, minmaxV, capV, binBV, nilCheckV, bytesV, V.cells, V.stays, Orc.nothing])
  refine Runs.pcall rfl rfl rfl (w1 _) ?_
  (refine Runs.of_step Orc.nothing 300 ?_; simp -implicitDefEqProofs only [BB, Int.reduceEq, Int.reduceNe, Int.reduceLT, Int.reduceLE, Int.reduceGT, Int.reduceGE, Nat.reduceEqDiff, Nat.reduceAdd, Nat.reduceMul, Nat.reduceLeDiff, Nat.reduceSub, Nat.reduceLT, Nat.reduceBEq, ↓reduceIte, reduceCtorEq, ← decide_not, okind, vpre, vpure, intBin, intPre, strBin, strPre, popTo, argSlots, fldV, fldAV, subCells, idxVV, idxAAV, idxSV, sliceV, sliceSV, boundV, szIs, storeOp, storeS, setRowV, eff, extV, buildV, splice, eqSV, fitsL, eqCells, eqCell, minmaxV, capV, binBV, nilCheckV, bytesV, V.cells, V.stays, Orc.nothing])
  refine Runs.pcall rfl rfl rfl (d1 _) ?_
  (refine Runs.of_step Orc.nothing 300 ?_; simp -implicitDefEqProofs only [BB, Int.reduceEq, Int.reduceNe, Int.reduceLT, Int.reduceLE, Int.reduceGT, Int.reduceGE, Nat.reduceEqDiff, Nat.reduceAdd, Nat.reduceMul, Nat.reduceLeDiff, Nat.reduceSub, Nat.reduceLT, Nat.reduceBEq, ↓reduceIte, reduceCtorEq, ← decide_not, okind, vpre, vpure, intBin, intPre, strBin, strPre, popTo, argSlots, fldV, fldAV, subCells, idxVV, idxAAV, idxSV, sliceV, sliceSV, boundV, szIs, storeOp, storeS, setRowV, eff, extV, buildV, splice, eqSV, fitsL, eqCells, eqCell, minmaxV, capV, binBV, nilCheckV, bytesV, Orc.nothing, V.cells_agg, V.cells_int, V.cells_nils, V.cells_own, V.cells_sl, V.cells_str, V.cells_bool, V.cells_fn, V.cells_ptr, V.cells_rp, V.stays_agg, V.stays_int, V.stays_nils, V.stays_own, V.stays_sl, V.stays_str, V.stays_bool, V.stays_fn, V.stays_ptr, V.stays_rp, c1, t1, a1'])
  refine effR_new fun id1 σ1 s1 a1 f1 => ?_
  simp -implicitDefEqProofs only [BB, Int.reduceEq, Int.reduceNe, Int.reduceLT, Int.reduceLE, Int.reduceGT, Int.reduceGE, Nat.reduceEqDiff, Nat.reduceAdd, Nat.reduceMul, Nat.reduceLeDiff, Nat.reduceSub, Nat.reduceLT, Nat.reduceBEq, ↓reduceIte, reduceCtorEq, ← decide_not, okind, vpre, vpure, intBin, intPre, strBin, strPre, popTo, argSlots, fldV, fldAV, subCells, idxVV, idxAAV, idxSV, sliceV, sliceSV, boundV, szIs, storeOp, storeS, setRowV, eff, extV, buildV, splice, eqSV, fitsL, eqCells, eqCell, minmaxV, capV, binBV, nilCheckV, bytesV, a1, V.cells_agg, V.cells_int, V.cells_nils, V.cells_own, V.cells_sl, V.cells_str, V.cells_bool, V.cells_fn, V.cells_ptr, V.cells_rp, V.stays_agg, V.stays_int, V.stays_nils, V.stays_own, V.stays_sl, V.stays_str, V.stays_bool, V.stays_fn, V.stays_ptr, V.stays_rp, c1, t1, a1']
  refine Runs.pcall rfl rfl rfl (of123 _) ?_
  (refine Runs.of_step Orc.nothing 300 ?_; simp -implicitDefEqProofs only [BB, Int.reduceEq, Int.reduceNe, Int.reduceLT, Int.reduceLE, Int.reduceGT, Int.reduceGE, Nat.reduceEqDiff, Nat.reduceAdd, Nat.reduceMul, Nat.reduceLeDiff, Nat.reduceSub, Nat.reduceLT, Nat.reduceBEq, ↓reduceIte, reduceCtorEq, ← decide_not, okind, vpre, vpure, intBin, intPre, strBin, strPre, popTo, argSlots, fldV, fldAV, subCells, idxVV, idxAAV, idxSV, sliceV, sliceSV, boundV, szIs, storeOp, storeS, setRowV, eff, extV, buildV, splice, eqSV, fitsL, eqCells, eqCell, minmaxV, capV, binBV, nilCheckV, bytesV, V.cells, V.stays, Orc.nothing])
  refine Runs.pcall rfl rfl rfl (of13 _) ?_
  (refine Runs.of_step Orc.nothing 300 ?_; simp -implicitDefEqProofs only [BB, Int.reduceEq, Int.reduceNe, Int.reduceLT, Int.reduceLE, Int.reduceGT, Int.reduceGE, Nat.reduceEqDiff, Nat.reduceAdd, Nat.reduceMul, Nat.reduceLeDiff, Nat.reduceSub, Nat.reduceLT, Nat.reduceBEq, ↓reduceIte, reduceCtorEq, ← decide_not, okind, vpre, vpure, intBin, intPre, strBin, strPre, popTo, argSlots, fldV, fldAV, subCells, idxVV, idxAAV, idxSV, sliceV, sliceSV, boundV, szIs, storeOp, storeS, setRowV, eff, extV, buildV, splice, eqSV, fitsL, eqCells, eqCell, minmaxV, capV, binBV, nilCheckV, bytesV, V.cells, V.stays, Orc.nothing])
  refine Runs.pcall rfl rfl rfl (d2 _) ?_
  (refine Runs.of_step Orc.nothing 300 ?_; simp -implicitDefEqProofs only [BB, Int.reduceEq, Int.reduceNe, Int.reduceLT, Int.reduceLE, Int.reduceGT, Int.reduceGE, Nat.reduceEqDiff, Nat.reduceAdd, Nat.reduceMul, Nat.reduceLeDiff, Nat.reduceSub, Nat.reduceLT, Nat.reduceBEq, ↓reduceIte, reduceCtorEq, ← decide_not, okind, vpre, vpure, intBin, intPre, strBin, strPre, popTo, argSlots, fldV, fldAV, subCells, idxVV, idxAAV, idxSV, sliceV, sliceSV, boundV, szIs, storeOp, storeS, setRowV, eff, extV, buildV, splice, eqSV, fitsL, eqCells, eqCell, minmaxV, capV, binBV, nilCheckV, bytesV, Orc.nothing, V.cells_agg, V.cells_int, V.cells_nils, V.cells_own, V.cells_sl, V.cells_str, V.cells_bool, V.cells_fn, V.cells_ptr, V.cells_rp, V.stays_agg, V.stays_int, V.stays_nils, V.stays_own, V.stays_sl, V.stays_str, V.stays_bool, V.stays_fn, V.stays_ptr, V.stays_rp, c2, t2, a2'])
  refine effR_new fun id2 σ2 s2 a2 f2 => ?_
  have b1 := s2 _ _ upd_same
  simp -implicitDefEqProofs only [BB, Int.reduceEq, Int.reduceNe, Int.reduceLT, Int.reduceLE, Int.reduceGT, Int.reduceGE, Nat.reduceEqDiff, Nat.reduceAdd, Nat.reduceMul, Nat.reduceLeDiff, Nat.reduceSub, Nat.reduceLT, Nat.reduceBEq, ↓reduceIte, reduceCtorEq, ← decide_not, okind, vpre, vpure, intBin, intPre, strBin, strPre, popTo, argSlots, fldV, fldAV, subCells, idxVV, idxAAV, idxSV, sliceV, sliceSV, boundV, szIs, storeOp, storeS, setRowV, eff, extV, buildV, splice, eqSV, fitsL, eqCells, eqCell, minmaxV, capV, binBV, nilCheckV, bytesV, a2, V.cells_agg, V.cells_int, V.cells_nils, V.cells_own, V.cells_sl, V.cells_str, V.cells_bool, V.cells_fn, V.cells_ptr, V.cells_rp, V.stays_agg, V.stays_int, V.stays_nils, V.stays_own, V.stays_sl, V.stays_str, V.stays_bool, V.stays_fn, V.stays_ptr, V.stays_rp, c2, t2, a2']
  refine Go.pcallG rfl rfl rfl w1 ?_
  (refine Go.of_step Orc.nothing 300 _ _ ?_; simp -implicitDefEqProofs only [BB, Int.reduceEq, Int.reduceNe, Int.reduceLT, Int.reduceLE, Int.reduceGT, Int.reduceGE, Nat.reduceEqDiff, Nat.reduceAdd, Nat.reduceMul, Nat.reduceLeDiff, Nat.reduceSub, Nat.reduceLT, Nat.reduceBEq, ↓reduceIte, reduceCtorEq, ← decide_not, okind, vpre, vpure, intBin, intPre, strBin, strPre, popTo, argSlots, fldV, fldAV, subCells, idxVV, idxAAV, idxSV, sliceV, sliceSV, boundV, szIs, storeOp, storeS, setRowV, eff, extV, buildV, splice, eqSV, fitsL, eqCells, eqCell, minmaxV, capV, binBV, nilCheckV, bytesV, V.cells, V.stays, Orc.nothing])
  refine Go.pcallG rfl rfl rfl d3 ?_
  (refine Go.of_step Orc.nothing 300 _ _ ?_; simp -implicitDefEqProofs only [BB, Int.reduceEq, Int.reduceNe, Int.reduceLT, Int.reduceLE, Int.reduceGT, Int.reduceGE, Nat.reduceEqDiff, Nat.reduceAdd, Nat.reduceMul, Nat.reduceLeDiff, Nat.reduceSub, Nat.reduceLT, Nat.reduceBEq, ↓reduceIte, reduceCtorEq, ← decide_not, okind, vpre, vpure, intBin, intPre, strBin, strPre, popTo, argSlots, fldV, fldAV, subCells, idxVV, idxAAV, idxSV, sliceV, sliceSV, boundV, szIs, storeOp, storeS, setRowV, eff, extV, buildV, splice, eqSV, fitsL, eqCells, eqCell, minmaxV, capV, binBV, nilCheckV, bytesV, Orc.nothing, upd_ne (ne_new upd_same f2), b1, V.cells_agg, V.cells_int, V.cells_nils, V.cells_own, V.cells_sl, V.cells_str, V.cells_bool, V.cells_fn, V.cells_ptr, V.cells_rp, V.stays_agg, V.stays_int, V.stays_nils, V.stays_own, V.stays_sl, V.stays_str, V.stays_bool, V.stays_fn, V.stays_ptr, V.stays_rp, c1, a1'])
  refine Go.pcallG rfl rfl rfl w2 ?_
  (refine Go.of_step Orc.nothing 300 _ _ ?_; simp -implicitDefEqProofs only [BB, Int.reduceEq, Int.reduceNe, Int.reduceLT, Int.reduceLE, Int.reduceGT, Int.reduceGE, Nat.reduceEqDiff, Nat.reduceAdd, Nat.reduceMul, Nat.reduceLeDiff, Nat.reduceSub, Nat.reduceLT, Nat.reduceBEq, ↓reduceIte, reduceCtorEq, ← decide_not, okind, vpre, vpure, intBin, intPre, strBin, strPre, popTo, argSlots, fldV, fldAV, subCells, idxVV, idxAAV, idxSV, sliceV, sliceSV, boundV, szIs, storeOp, storeS, setRowV, eff, extV, buildV, splice, eqSV, fitsL, eqCells, eqCell, minmaxV, capV, binBV, nilCheckV, bytesV, V.cells, V.stays, Orc.nothing])
  refine Go.pcallG rfl rfl rfl d4 ?_
  (refine Go.of_step Orc.nothing 300 _ _ ?_; simp -implicitDefEqProofs only [BB, Int.reduceEq, Int.reduceNe, Int.reduceLT, Int.reduceLE, Int.reduceGT, Int.reduceGE, Nat.reduceEqDiff, Nat.reduceAdd, Nat.reduceMul, Nat.reduceLeDiff, Nat.reduceSub, Nat.reduceLT, Nat.reduceBEq, ↓reduceIte, reduceCtorEq, ← decide_not, okind, vpre, vpure, intBin, intPre, strBin, strPre, popTo, argSlots, fldV, fldAV, subCells, idxVV, idxAAV, idxSV, sliceV, sliceSV, boundV, szIs, storeOp, storeS, setRowV, eff, extV, buildV, splice, eqSV, fitsL, eqCells, eqCell, minmaxV, capV, binBV, nilCheckV, bytesV, V.cells, V.stays, Orc.nothing])
  refine Go.pcallG rfl rfl rfl w3 ?_
  (refine Go.of_step Orc.nothing 300 _ _ ?_; simp -implicitDefEqProofs only [BB, Int.reduceEq, Int.reduceNe, Int.reduceLT, Int.reduceLE, Int.reduceGT, Int.reduceGE, Nat.reduceEqDiff, Nat.reduceAdd, Nat.reduceMul, Nat.reduceLeDiff, Nat.reduceSub, Nat.reduceLT, Nat.reduceBEq, ↓reduceIte, reduceCtorEq, ← decide_not, okind, vpre, vpure, intBin, intPre, strBin, strPre, popTo, argSlots, fldV, fldAV, subCells, idxVV, idxAAV, idxSV, sliceV, sliceSV, boundV, szIs, storeOp, storeS, setRowV, eff, extV, buildV, splice, eqSV, fitsL, eqCells, eqCell, minmaxV, capV, binBV, nilCheckV, bytesV, V.cells, V.stays, Orc.nothing])
  refine Go.pcallG rfl rfl rfl d5 ?_
  (refine Go.of_step Orc.nothing 300 _ _ ?_; simp -implicitDefEqProofs only [BB, Int.reduceEq, Int.reduceNe, Int.reduceLT, Int.reduceLE, Int.reduceGT, Int.reduceGE, Nat.reduceEqDiff, Nat.reduceAdd, Nat.reduceMul, Nat.reduceLeDiff, Nat.reduceSub, Nat.reduceLT, Nat.reduceBEq, ↓reduceIte, reduceCtorEq, ← decide_not, okind, vpre, vpure, intBin, intPre, strBin, strPre, popTo, argSlots, fldV, fldAV, subCells, idxVV, idxAAV, idxSV, sliceV, sliceSV, boundV, szIs, storeOp, storeS, setRowV, eff, extV, buildV, splice, eqSV, fitsL, eqCells, eqCell, minmaxV, capV, binBV, nilCheckV, bytesV, V.cells, V.stays, Orc.nothing])
  refine Go.pcallG rfl rfl rfl w4 ?_
  (refine Go.of_step Orc.nothing 300 _ _ ?_; simp -implicitDefEqProofs only [BB, Int.reduceEq, Int.reduceNe, Int.reduceLT, Int.reduceLE, Int.reduceGT, Int.reduceGE, Nat.reduceEqDiff, Nat.reduceAdd, Nat.reduceMul, Nat.reduceLeDiff, Nat.reduceSub, Nat.reduceLT, Nat.reduceBEq, ↓reduceIte, reduceCtorEq, ← decide_not, okind, vpre, vpure, intBin, intPre, strBin, strPre, popTo, argSlots, fldV, fldAV, subCells, idxVV, idxAAV, idxSV, sliceV, sliceSV, boundV, szIs, storeOp, storeS, setRowV, eff, extV, buildV, splice, eqSV, fitsL, eqCells, eqCell, minmaxV, capV, binBV, nilCheckV, bytesV, V.cells, V.stays, Orc.nothing])
  refine Go.pcallG rfl rfl rfl d6 ?_
  (refine Go.of_step Orc.nothing 300 _ _ ?_; simp -implicitDefEqProofs only [BB, Int.reduceEq, Int.reduceNe, Int.reduceLT, Int.reduceLE, Int.reduceGT, Int.reduceGE, Nat.reduceEqDiff, Nat.reduceAdd, Nat.reduceMul, Nat.reduceLeDiff, Nat.reduceSub, Nat.reduceLT, Nat.reduceBEq, ↓reduceIte, reduceCtorEq, ← decide_not, okind, vpre, vpure, intBin, intPre, strBin, strPre, popTo, argSlots, fldV, fldAV, subCells, idxVV, idxAAV, idxSV, sliceV, sliceSV, boundV, szIs, storeOp, storeS, setRowV, eff, extV, buildV, splice, eqSV, fitsL, eqCells, eqCell, minmaxV, capV, binBV, nilCheckV, bytesV, V.cells, V.stays, Orc.nothing])
  refine Go.pcallG rfl rfl rfl w5 ?_
  (refine Go.of_step Orc.nothing 300 _ _ ?_; simp -implicitDefEqProofs only [BB, Int.reduceEq, Int.reduceNe, Int.reduceLT, Int.reduceLE, Int.reduceGT, Int.reduceGE, Nat.reduceEqDiff, Nat.reduceAdd, Nat.reduceMul, Nat.reduceLeDiff, Nat.reduceSub, Nat.reduceLT, Nat.reduceBEq, ↓reduceIte, reduceCtorEq, ← decide_not, okind, vpre, vpure, intBin, intPre, strBin, strPre, popTo, argSlots, fldV, fldAV, subCells, idxVV, idxAAV, idxSV, sliceV, sliceSV, boundV, szIs, storeOp, storeS, setRowV, eff, extV, buildV, splice, eqSV, fitsL, eqCells, eqCell, minmaxV, capV, binBV, nilCheckV, bytesV, V.cells, V.stays, Orc.nothing])
  refine Go.pcallG rfl rfl rfl d7 ?_
  (refine Go.of_step Orc.nothing 300 _ _ ?_; simp -implicitDefEqProofs only [BB, Int.reduceEq, Int.reduceNe, Int.reduceLT, Int.reduceLE, Int.reduceGT, Int.reduceGE, Nat.reduceEqDiff, Nat.reduceAdd, Nat.reduceMul, Nat.reduceLeDiff, Nat.reduceSub, Nat.reduceLT, Nat.reduceBEq, ↓reduceIte, reduceCtorEq, ← decide_not, okind, vpre, vpure, intBin, intPre, strBin, strPre, popTo, argSlots, fldV, fldAV, subCells, idxVV, idxAAV, idxSV, sliceV, sliceSV, boundV, szIs, storeOp, storeS, setRowV, eff, extV, buildV, splice, eqSV, fitsL, eqCells, eqCell, minmaxV, capV, binBV, nilCheckV, bytesV, V.cells, V.stays, Orc.nothing])
  refine Go.pcallG rfl rfl rfl plain_c ?_
  have hbu : buildV [.int .i64 0, .int .i64 0, .int .i64 0, .int .i64 0, .nils, .int .i64 0, .int .i64 0, .int .i64 0, .int .i64 0, .int .i64 0, .int .i64 0, .int .i64 0, .int .i64 0, .int .i64 0, .int .i64 0, .int .i64 0, .int .i64 0]
      [(0, 1, .int .i64 2), (2, 1, .int .i64 1), (5, 12, .agg plainS.cells)] = some [.int .i64 2, .int .i64 0, .int .i64 1, .int .i64 0, .nils, .int .i64 0, .int .i64 0, .int .i64 0, .int .i64 0, .int .i64 0, .int .i64 2, .int .i64 2, .int .i64 0, .int .i64 0, .int .i64 0, .int .i64 0, .int .i64 0] := rfl
  (refine Go.of_step Orc.nothing 300 _ _ ?_; simp -implicitDefEqProofs only [BB, Int.reduceEq, Int.reduceNe, Int.reduceLT, Int.reduceLE, Int.reduceGT, Int.reduceGE, Nat.reduceEqDiff, Nat.reduceAdd, Nat.reduceMul, Nat.reduceLeDiff, Nat.reduceSub, Nat.reduceLT, Nat.reduceBEq, ↓reduceIte, reduceCtorEq, ← decide_not, okind, vpre, vpure, intBin, intPre, strBin, strPre, popTo, argSlots, fldV, fldAV, subCells, idxVV, idxAAV, idxSV, sliceV, sliceSV, boundV, szIs, storeOp, storeS, setRowV, eff, extV, splice, eqSV, fitsL, eqCells, eqCell, minmaxV, capV, binBV, nilCheckV, bytesV, V.cells, V.stays, Orc.nothing, hbu])
  have d8' : PFun Try.prog 42 [.str sb1, .agg [.int .i64 2, .int .i64 0, .int .i64 1, .int .i64 0, .nils, .int .i64 0, .int .i64 0, .int .i64 0, .int .i64 0, .int .i64 0, .int .i64 2, .int .i64 2, .int .i64 0, .int .i64 0, .int .i64 0, .int .i64 0, .int .i64 0]] (.bool true) :=
    fun σ => PFun.borrow (by simp only [WkL]; exact ⟨Wk.refl (nost_sub σ) _, wk_edN (nost_sub σ) 2 0 1 0 plainS, trivial⟩) d8 rfl
  refine Go.pcallG rfl rfl rfl d8' ?_
  (refine Go.of_step Orc.nothing 300 _ _ ?_; simp -implicitDefEqProofs only [BB, Int.reduceEq, Int.reduceNe, Int.reduceLT, Int.reduceLE, Int.reduceGT, Int.reduceGE, Nat.reduceEqDiff, Nat.reduceAdd, Nat.reduceMul, Nat.reduceLeDiff, Nat.reduceSub, Nat.reduceLT, Nat.reduceBEq, ↓reduceIte, reduceCtorEq, ← decide_not, okind, vpre, vpure, intBin, intPre, strBin, strPre, popTo, argSlots, fldV, fldAV, subCells, idxVV, idxAAV, idxSV, sliceV, sliceSV, boundV, szIs, storeOp, storeS, setRowV, eff, extV, buildV, splice, eqSV, fitsL, eqCells, eqCell, minmaxV, capV, binBV, nilCheckV, bytesV, Orc.nothing, V.cells_agg, V.cells_int, V.cells_nils, V.cells_own, V.cells_sl, V.cells_str, V.cells_bool, V.cells_fn, V.cells_ptr, V.cells_rp, V.stays_agg, V.stays_int, V.stays_nils, V.stays_own, V.stays_sl, V.stays_str, V.stays_bool, V.stays_fn, V.stays_ptr, V.stays_rp, a2, c2, a2', upd_same])
  refine Go.pcallG rfl rfl rfl w6 ?_
  (refine Go.of_step Orc.nothing 300 _ _ ?_; simp -implicitDefEqProofs only [BB, Int.reduceEq, Int.reduceNe, Int.reduceLT, Int.reduceLE, Int.reduceGT, Int.reduceGE, Nat.reduceEqDiff, Nat.reduceAdd, Nat.reduceMul, Nat.reduceLeDiff, Nat.reduceSub, Nat.reduceLT, Nat.reduceBEq, ↓reduceIte, reduceCtorEq, ← decide_not, okind, vpre, vpure, intBin, intPre, strBin, strPre, popTo, argSlots, fldV, fldAV, subCells, idxVV, idxAAV, idxSV, sliceV, sliceSV, boundV, szIs, storeOp, storeS, setRowV, eff, extV, buildV, splice, eqSV, fitsL, eqCells, eqCell, minmaxV, capV, binBV, nilCheckV, bytesV, V.cells, V.stays, Orc.nothing])
  refine Go.pcallG rfl rfl rfl d9 ?_
  (refine Go.of_step Orc.nothing 300 _ _ ?_; simp -implicitDefEqProofs only [BB, Int.reduceEq, Int.reduceNe, Int.reduceLT, Int.reduceLE, Int.reduceGT, Int.reduceGE, Nat.reduceEqDiff, Nat.reduceAdd, Nat.reduceMul, Nat.reduceLeDiff, Nat.reduceSub, Nat.reduceLT, Nat.reduceBEq, ↓reduceIte, reduceCtorEq, ← decide_not, okind, vpre, vpure, intBin, intPre, strBin, strPre, popTo, argSlots, fldV, fldAV, subCells, idxVV, idxAAV, idxSV, sliceV, sliceSV, boundV, szIs, storeOp, storeS, setRowV, eff, extV, buildV, splice, eqSV, fitsL, eqCells, eqCell, minmaxV, capV, binBV, nilCheckV, bytesV, V.cells, V.stays, Orc.nothing])
  exact RetV.pure (((s1.updK f1).trans s2).updK ((s1.updK f1).none f2)) rfl
end Go.Vc
namespace Go.Vc
open Go.Proofs
section
variable {P : Program} {n : Nat} {st : St} {Q : St → Prop} {k : List It}
theorem cop_bin {o : Op} {op : BinOp} {x y : VX} (h : cop P n o = .bin op x y) : ∃ t x0 y0 yt, o = .binOp op t x0 y0 yt ∧ cx n x0 = x ∧ cx n y0 = y := by
  cases o
  case binOp op' t x0 y0 yt =>
    simp only [cop, nilB] at h
    split at h
    · split at h <;> cases h
    · split at h
      · split at h <;> cases h
      · cases h
    · split at h
      · split at h <;> cases h
      · simp only [VOp.bin.injEq] at h
        obtain ⟨rfl, h2, h3⟩ := h
        exact ⟨t, x0, y0, yt, rfl, h2, h3⟩
  case call c =>
    obtain ⟨callee, args, argTypes⟩ := c
    cases callee
    case builtin b => cases b <;> simp only [cop, nilB] at h <;> (repeat' split at h) <;> cases h
    all_goals (simp only [cop, nilB] at h; cases h)
  case unOp op t x => cases op <;> simp only [cop, nilB] at h <;> cases h
  case makeFunc f a b => cases f <;> simp only [cop, nilB] at h <;> (repeat' split at h) <;> cases h
  all_goals (simp only [cop, nilB] at h; (repeat' split at h) <;> cases h)
/-- a sum, be it cut to 64 bits -/
theorem Runs.addW {i : VIns} {l : List VIns} {x y : VX} {kk : IntKind} {a b : Int} (hw : wantV st.s i.g = some true) (ho : i.op = .bin .add x y) (hx : x.ev st.s = .int kk a) (hy : y.ev st.s = .int kk b)
    (h : Runs P n (.ops l :: k) ⟨putO st.s i.dst (.int kk (kk.wrap (a + b))), st.σ⟩ Q) : Runs P n (.ops (i :: l) :: k) st Q := by
  refine Runs.ins hw fun F hn μ act w o all hi hs next Q' hnext => ?_
  subst hn
  obtain ⟨hop, hd⟩ := cins_op hi
  rw [ho] at hop
  obtain ⟨t, x0, y0, yt, g1, rfl, rfl⟩ := cop_bin hop
  have ex : act.eval x0 = .int kk a := by
    have := rep_cx hs x0
    rw [hx] at this
    simpa [Rep] using this
  have ey : act.eval y0 = .int kk b := by
    have := rep_cx hs y0
    rw [hy] at this
    simpa [Rep] using this
  have hrun : (execOp act.eval o).run P w = .ok (.value (.int kk (kk.wrap (a + b)))) w := by
    unfold execOp
    rw [g1]
    simp [ex, ey, eqGuard, binOp, Op.intArith]
  unfold Oper.wp
  rw [hrun]
  refine hnext _ _ _ ⟨μ, ?_⟩ h
  have := hs.pure (d := o.dst) (v := .int kk (kk.wrap (a + b))) (x := .int kk (kk.wrap (a + b))) (by simp [Rep])
  rw [← hd]
  exact this
end
def wsum (l : List Nd) : Nat := (l.map fun x => x.words.length).sum
def vastR (l : List Nd) : Bool := decide (40 < l.length) || decide (200 < wsum l)
theorem wsum_take {l : List Nd} {i : Nat} (h : i < l.length) : wsum (l.take (i + 1)) = wsum (l.take i) + l[i].words.length := by
  rw [wsum, List.take_succ_eq_append_getElem h, List.map_append, List.sum_append]
  simp [wsum]
theorem wsum_le {l : List Nd} {B : Nat} (h : ∀ x ∈ l, x.words.length ≤ B) : wsum l ≤ l.length * B := by
  induction l with
  | nil => simp [wsum]
  | cons x l ih =>
    have h1 := h x (by simp)
    have h2 := ih fun y hy => h y (by simp [hy])
    simp only [wsum, List.map_cons, List.sum_cons, List.length_cons, Nat.add_mul] at h2 ⊢
    omega
theorem wsum_mem {l : List Nd} {x : Nd} (h : x ∈ l) : x.words.length ≤ wsum l := by
  induction l with
  | nil => simp at h
  | cons y l ih =>
    simp only [wsum, List.map_cons, List.sum_cons]
    rcases List.mem_cons.1 h with rfl | h
    · omega
    · have := ih h; simp only [wsum] at this; omega
theorem vastR_len {l : List Nd} (h : vastR l = false) : Len 40 l := by
  simp only [vastR, Bool.or_eq_false_iff, decide_eq_false_iff_not] at h
  exact ⟨by omega, fun x hx => by have := wsum_mem hx; omega⟩
set_option maxRecDepth 100000 in
theorem vast_c (l : List Nd) (hlen : l.length ≤ 1000000000000) (hw : ∀ x ∈ l, x.words.length ≤ 200000000000000) : PFun Try.prog 18 [encNs l] (.bool (vastR l)) := fun σ => by
  refine Contract.of_runs Try.func18 e18 k18 (by simp [c18]) ?_
  refine Runs.mix 5 ?_
  (refine Runs.of_step Orc.nothing 300 ?_; simp -implicitDefEqProofs only [BB, Int.reduceEq, Int.reduceNe, Int.reduceLT, Int.reduceLE, Int.reduceGT, Int.reduceGE, Nat.reduceEqDiff, Nat.reduceAdd, Nat.reduceMul, Nat.reduceLeDiff, Nat.reduceSub, Nat.reduceLT, Nat.reduceBEq, ↓reduceIte, reduceCtorEq, ← decide_not, okind, vpre, vpure, intBin, intPre, strBin, strPre, popTo, argSlots, fldV, fldAV, subCells, idxVV, idxAAV, idxSV, sliceV, sliceSV, boundV, szIs, storeOp, storeS, setRowV, eff, extV, buildV, splice, eqSV, fitsL, eqCells, eqCell, minmaxV, capV, binBV, nilCheckV, bytesV, V.cells, V.stays, Orc.nothing, c18])
  refine Runs.loop (fun m st => ∃ (i : Nat) (c : Int), i ≤ l.length ∧ m = l.length - i ∧ st.σ = σ ∧ st.s 0 = encNs l ∧ st.s 3 = vI c ∧ (l.length ≤ 40 → c = wsum (l.take i)) ∧ st.s 4 = vI i) l.length ?_ ?_
  · exact ⟨0, 0, by omega, by omega, rfl, rfl, rfl, fun _ => by simp [wsum], rfl⟩
  · rintro m ⟨s, σ'⟩ ⟨i, c, hi, rfl, hσ, h0, h3, hc, h4⟩
    simp only at hσ h0 h3 h4
    subst hσ
    refine Runs.mix 5 ?_
    by_cases hlt : (i : Int) < l.length
    · have hil : i < l.length := by omega
      have hwi := hw _ (List.getElem_mem hil)
      have hws := wsum_take hil
      have hdt : decide ((i : Int) < l.length) = true := decide_eq_true hlt
      (refine Runs.of_step Orc.nothing 20 ?_; simp -implicitDefEqProofs only [BB, Int.reduceEq, Int.reduceNe, Int.reduceLT, Int.reduceLE, Int.reduceGT, Int.reduceGE, Nat.reduceEqDiff, Nat.reduceAdd, Nat.reduceMul, Nat.reduceLeDiff, Nat.reduceSub, Nat.reduceLT, Nat.reduceBEq, ↓reduceIte, reduceCtorEq, ← decide_not, okind, vpre, vpure, intBin, intPre, strBin, strPre, popTo, argSlots, fldV, fldAV, subCells, idxVV, idxAAV, idxSV, sliceV, sliceSV, boundV, szIs, storeOp, storeS, setRowV, eff, extV, buildV, splice, eqSV, fitsL, eqCells, eqCell, minmaxV, capV, binBV, nilCheckV, bytesV, V.cells, V.stays, s_zero, Orc.nothing, h0, h3, h4, lenV_encNs, hlt, hdt, idxAV_encNs hil, Nd.cells, lenV_encI, loadV_rp_encI])
      refine Runs.addW rfl rfl rfl rfl ?_
      by_cases h40 : l.length ≤ 40
      · have hc' := hc h40
        have hwr : IntKind.i64.wrap (c + (l[i].words.length : Int)) = c + l[i].words.length := by
          have hsum := wsum_le (l := l.take i) (B := 200000000000000) (fun x hx => hw x (List.mem_of_mem_take hx))
          have : (l.take i).length ≤ 40 := by simp; omega
          have : wsum (l.take i) ≤ 40 * 200000000000000 := Nat.le_trans hsum (Nat.mul_le_mul_right _ this)
          rw [IntKind.wrap_i64]; omega
        rw [hwr]
        (refine Runs.of_step Orc.nothing 300 ?_; simp -implicitDefEqProofs only [BB, Int.reduceEq, Int.reduceNe, Int.reduceLT, Int.reduceLE, Int.reduceGT, Int.reduceGE, Nat.reduceEqDiff, Nat.reduceAdd, Nat.reduceMul, Nat.reduceLeDiff, Nat.reduceSub, Nat.reduceLT, Nat.reduceBEq, ↓reduceIte, reduceCtorEq, ← decide_not, okind, vpre, vpure, intBin, intPre, strBin, strPre, popTo, argSlots, fldV, fldAV, subCells, idxVV, idxAAV, idxSV, sliceV, sliceSV, boundV, szIs, storeOp, storeS, setRowV, eff, extV, buildV, splice, eqSV, fitsL, eqCells, eqCell, minmaxV, capV, binBV, nilCheckV, bytesV, V.cells, V.stays, Orc.nothing, h0, h4])
        refine ⟨inR_i64 (by omega) (by omega), _, ?_, i + 1, _, by omega, rfl, rfl, ?_, ?_⟩
        · omega
        · intro _; rw [hws, hc']; omega
        · simp
      · (refine Runs.of_step Orc.nothing 300 ?_; simp -implicitDefEqProofs only [BB, Int.reduceEq, Int.reduceNe, Int.reduceLT, Int.reduceLE, Int.reduceGT, Int.reduceGE, Nat.reduceEqDiff, Nat.reduceAdd, Nat.reduceMul, Nat.reduceLeDiff, Nat.reduceSub, Nat.reduceLT, Nat.reduceBEq, ↓reduceIte, reduceCtorEq, ← decide_not, okind, vpre, vpure, intBin, intPre, strBin, strPre, popTo, argSlots, fldV, fldAV, subCells, idxVV, idxAAV, idxSV, sliceV, sliceSV, boundV, szIs, storeOp, storeS, setRowV, eff, extV, buildV, splice, eqSV, fitsL, eqCells, eqCell, minmaxV, capV, binBV, nilCheckV, bytesV, V.cells, V.stays, Orc.nothing, h0, h4])
        refine ⟨inR_i64 (by omega) (by omega), _, ?_, i + 1, _, by omega, rfl, rfl, ?_, ?_⟩
        · omega
        · intro h; omega
        · simp
    · have hie : i = l.length := by omega
      subst hie
      rw [List.take_length] at hc
      have hlt2 : ¬ ((l.length : Int) < l.length) := by omega
      (refine Runs.of_step Orc.nothing 300 ?_; simp -implicitDefEqProofs only [BB, Int.reduceEq, Int.reduceNe, Int.reduceLT, Int.reduceLE, Int.reduceGT, Int.reduceGE, Nat.reduceEqDiff, Nat.reduceAdd, Nat.reduceMul, Nat.reduceLeDiff, Nat.reduceSub, Nat.reduceLT, Nat.reduceBEq, ↓reduceIte, reduceCtorEq, ← decide_not, okind, vpre, vpure, intBin, intPre, strBin, strPre, popTo, argSlots, fldV, fldAV, subCells, idxVV, idxAAV, idxSV, sliceV, sliceSV, boundV, szIs, storeOp, storeS, setRowV, eff, extV, buildV, splice, eqSV, fitsL, eqCells, eqCell, minmaxV, capV, binBV, nilCheckV, bytesV, V.cells, V.stays, Orc.nothing, h0, h3, h4, lenV_encNs, hlt2])
      refine And.intro (fun h => ?_) (fun h => ?_)
      · refine RetV.same ?_
        rw [hc (by omega), vastR]
        have h1 : decide (40 < l.length) = false := decide_eq_false (by omega)
        rw [h1, Bool.false_or, V.bool.injEq, Bool.eq_iff_iff, decide_eq_true_eq, decide_eq_true_eq]
        omega
      · refine RetV.same ?_
        have h1 : decide (40 < l.length) = true := decide_eq_true (by omega)
        rw [vastR, h1, Bool.true_or]
def encEs (l : List Ed) : V := .sl 17 (l.map encE)
theorem lenV_encEs (l : List Ed) : lenV false (encEs l) = some (.int .i64 l.length) := by simp [encEs, lenV]
theorem idxAV_encEs {σ : Store} {l : List Ed} {i : Nat} (h : i < l.length) : idxAV σ 17 (encEs l) (.int .i64 i) = some (.rp (encE l[i])) := by
  simp [encEs, idxAV, h]
theorem loadV_rp_encE (σ : Store) (x : Ed) : loadV σ true 17 (.rp (encE x)) = some (encE x) := by simp [loadV, encE, V.cells, Ed.cells]
theorem runR_step {l : List Nd} {es : List Ed} {i : Nat} (h : i < es.length) : runR l (es.drop i) = match doR l es[i] with
    | none => (l, 0)
    | some out => ((runR out (es.drop (i + 1))).1, (runR out (es.drop (i + 1))).2 + 1) := by
  rw [List.drop_eq_getElem_cons h, runR]
  cases doR l es[i] <;> rfl
set_option maxRecDepth 100000 in
theorem run_c (l : List Nd) (es : List Ed) (N M : Nat) (hl : Len N l) (hes : ∀ x ∈ es, Len M x.sub) (hN : N + M * es.length ≤ 5000) (hM : M ≤ 5000) (hel : es.length ≤ 5000) : PFun Try.prog 28 [encNs l, encEs es] (.tup [encNs (runR l es).1, vI (runR l es).2]) := fun σ => by
  refine Contract.of_runs Try.func28 e28 k28 (by simp [c28]) ?_
  refine Runs.mix 10 ?_
  (refine Runs.of_step Orc.nothing 300 ?_; simp -implicitDefEqProofs only [BB, Int.reduceEq, Int.reduceNe, Int.reduceLT, Int.reduceLE, Int.reduceGT, Int.reduceGE, Nat.reduceEqDiff, Nat.reduceAdd, Nat.reduceMul, Nat.reduceLeDiff, Nat.reduceSub, Nat.reduceLT, Nat.reduceBEq, ↓reduceIte, reduceCtorEq, ← decide_not, okind, vpre, vpure, intBin, intPre, strBin, strPre, popTo, argSlots, fldV, fldAV, subCells, idxVV, idxAAV, idxSV, sliceV, sliceSV, boundV, szIs, storeOp, storeS, setRowV, eff, extV, buildV, splice, eqSV, fitsL, eqCells, eqCell, minmaxV, capV, binBV, nilCheckV, bytesV, V.cells, V.stays, Orc.nothing, c28])
  refine Runs.pcall rfl rfl rfl (own9_c l (hl.hlf (by omega)).sml _) ?_
  (refine Runs.of_step Orc.nothing 300 ?_; simp -implicitDefEqProofs only [BB, Int.reduceEq, Int.reduceNe, Int.reduceLT, Int.reduceLE, Int.reduceGT, Int.reduceGE, Nat.reduceEqDiff, Nat.reduceAdd, Nat.reduceMul, Nat.reduceLeDiff, Nat.reduceSub, Nat.reduceLT, Nat.reduceBEq, ↓reduceIte, reduceCtorEq, ← decide_not, okind, vpre, vpure, intBin, intPre, strBin, strPre, popTo, argSlots, fldV, fldAV, subCells, idxVV, idxAAV, idxSV, sliceV, sliceSV, boundV, szIs, storeOp, storeS, setRowV, eff, extV, buildV, splice, eqSV, fitsL, eqCells, eqCell, minmaxV, capV, binBV, nilCheckV, bytesV, V.cells, V.stays, Orc.nothing, lenV_encEs])
  refine Runs.loop (fun m st => ∃ (i : Nat) (l' : List Nd), i ≤ es.length ∧ m = es.length - i ∧ Len (N + M * i) l' ∧ (runR l es).1 = (runR l' (es.drop i)).1 ∧ (runR l es).2 = (runR l' (es.drop i)).2 + i ∧ SubStore σ st.σ ∧
    st.s 4 = encNs l' ∧ st.s 5 = vI i ∧ st.s 12 = encEs es ∧ st.s 13 = vI es.length ∧ st.s 14 = vI i) es.length ?_ ?_
  · exact ⟨0, l, by omega, by omega, by simpa using hl, rfl, rfl, SubStore.refl _, rfl, rfl, rfl, rfl, rfl⟩
  · rintro m ⟨s, σ'⟩ ⟨i, l', hi, rfl, hl', e1, e2, hsub, h4, h5, h12, h13, h14⟩
    simp only at hsub h4 h5 h12 h13 h14
    refine Runs.mix 15 ?_
    (refine Runs.of_step Orc.nothing 300 ?_; simp -implicitDefEqProofs only [BB, Int.reduceEq, Int.reduceNe, Int.reduceLT, Int.reduceLE, Int.reduceGT, Int.reduceGE, Nat.reduceEqDiff, Nat.reduceAdd, Nat.reduceMul, Nat.reduceLeDiff, Nat.reduceSub, Nat.reduceLT, Nat.reduceBEq, ↓reduceIte, reduceCtorEq, ← decide_not, okind, vpre, vpure, intBin, intPre, strBin, strPre, popTo, argSlots, fldV, fldAV, subCells, idxVV, idxAAV, idxSV, sliceV, sliceSV, boundV, szIs, storeOp, storeS, setRowV, eff, extV, buildV, splice, eqSV, fitsL, eqCells, eqCell, minmaxV, capV, binBV, nilCheckV, bytesV, V.cells, V.stays, Orc.nothing, h4, h5, h12, h13, h14])
    refine And.intro (fun hlt => ?_) (fun hge => ?_)
    · have hil : i < es.length := by omega
      have hx := hes _ (List.getElem_mem hil)
      have hMi : M * i ≤ M * es.length := Nat.mul_le_mul_left _ (by omega)
      have hMs : M * (i + 1) = M * i + M := Nat.mul_succ M i
      have hst := runR_step (l := l') hil
      have hle := fun σ => loadV_rp_encE σ es[i]
      have hdc := do_c l' es[i] (hl'.hlf (by omega)) (hx.hlf (by omega))
      have hdl := fun out (h : doR l' es[i] = some out) => doR_len hl' hx h
      obtain ⟨cs, hcs⟩ : ∃ v, v = encE es[i] := ⟨_, rfl⟩
      have hcc : cs.cells.length = 17 := by rw [hcs]; rfl
      have hcst : cs.stays = true := by rw [hcs]; rfl
      have hcl : V.agg cs.cells = cs := by rw [hcs]; rfl
      have hidx := fun σ => idxAV_encEs (σ := σ) hil
      rw [← hcs] at hdc hle
      simp only [← hcs] at hidx
      simp -implicitDefEqProofs only [BB, Int.reduceEq, Int.reduceNe, Int.reduceLT, Int.reduceLE, Int.reduceGT, Int.reduceGE, Nat.reduceEqDiff, Nat.reduceAdd, Nat.reduceMul, Nat.reduceLeDiff, Nat.reduceSub, Nat.reduceLT, Nat.reduceBEq, ↓reduceIte, reduceCtorEq, ← decide_not, okind, vpre, vpure, intBin, intPre, strBin, strPre, popTo, argSlots, fldV, fldAV, subCells, idxVV, idxAAV, idxSV, sliceV, sliceSV, boundV, szIs, storeOp, storeS, setRowV, eff, extV, buildV, splice, eqSV, fitsL, eqCells, eqCell, minmaxV, capV, binBV, nilCheckV, bytesV, hidx, hle, V.cells_agg, V.cells_int, V.cells_nils, V.cells_own, V.cells_sl, V.cells_str, V.cells_bool, V.cells_fn, V.cells_ptr, V.cells_rp, V.stays_agg, V.stays_int, V.stays_nils, V.stays_own, V.stays_sl, V.stays_str, V.stays_bool, V.stays_fn, V.stays_ptr, V.stays_rp, h4, h5, h12, h13, h14]
      refine effR_new fun id1 σ2 s1 a1 f1 => ?_
      simp -implicitDefEqProofs only [BB, Int.reduceEq, Int.reduceNe, Int.reduceLT, Int.reduceLE, Int.reduceGT, Int.reduceGE, Nat.reduceEqDiff, Nat.reduceAdd, Nat.reduceMul, Nat.reduceLeDiff, Nat.reduceSub, Nat.reduceLT, Nat.reduceBEq, ↓reduceIte, reduceCtorEq, ← decide_not, okind, vpre, vpure, intBin, intPre, strBin, strPre, popTo, argSlots, fldV, fldAV, subCells, idxVV, idxAAV, idxSV, sliceV, sliceSV, boundV, szIs, storeOp, storeS, setRowV, eff, extV, buildV, splice, eqSV, fitsL, eqCells, eqCell, minmaxV, capV, binBV, nilCheckV, bytesV, a1, V.cells_agg, V.cells_int, V.cells_nils, V.cells_own, V.cells_sl, V.cells_str, V.cells_bool, V.cells_fn, V.cells_ptr, V.cells_rp, V.stays_agg, V.stays_int, V.stays_nils, V.stays_own, V.stays_sl, V.stays_str, V.stays_bool, V.stays_fn, V.stays_ptr, V.stays_rp, hcc, hcst, hcl, h4, h5, h12, h13, h14]
      refine Runs.pcall rfl rfl rfl (hdc _) ?_
      have hs2 := (hsub.trans s1).updK (o := ⟨39, 17, [cs]⟩) (hsub.none f1)
      cases hd : doR l' es[i] with
      | none =>
        rw [hd] at hst
        (refine Runs.of_step Orc.nothing 300 ?_; simp -implicitDefEqProofs only [BB, Int.reduceEq, Int.reduceNe, Int.reduceLT, Int.reduceLE, Int.reduceGT, Int.reduceGE, Nat.reduceEqDiff, Nat.reduceAdd, Nat.reduceMul, Nat.reduceLeDiff, Nat.reduceSub, Nat.reduceLT, Nat.reduceBEq, ↓reduceIte, reduceCtorEq, ← decide_not, okind, vpre, vpure, intBin, intPre, strBin, strPre, popTo, argSlots, fldV, fldAV, subCells, idxVV, idxAAV, idxSV, sliceV, sliceSV, boundV, szIs, storeOp, storeS, setRowV, eff, extV, buildV, splice, eqSV, fitsL, eqCells, eqCell, minmaxV, capV, binBV, nilCheckV, bytesV, V.cells, V.stays, Orc.nothing, errV, optV, Option.isSome_none, Option.getD_none, h4, h5, h12, h13, h14])
        refine RetV.pure hs2 ?_
        rw [e1, e2, hst]
        simp
      | some out =>
        rw [hd] at hst
        (refine Runs.of_step Orc.nothing 300 ?_; simp -implicitDefEqProofs only [BB, Int.reduceEq, Int.reduceNe, Int.reduceLT, Int.reduceLE, Int.reduceGT, Int.reduceGE, Nat.reduceEqDiff, Nat.reduceAdd, Nat.reduceMul, Nat.reduceLeDiff, Nat.reduceSub, Nat.reduceLT, Nat.reduceBEq, ↓reduceIte, reduceCtorEq, ← decide_not, okind, vpre, vpure, intBin, intPre, strBin, strPre, popTo, argSlots, fldV, fldAV, subCells, idxVV, idxAAV, idxSV, sliceV, sliceSV, boundV, szIs, storeOp, storeS, setRowV, eff, extV, buildV, splice, eqSV, fitsL, eqCells, eqCell, minmaxV, capV, binBV, nilCheckV, bytesV, V.cells, V.stays, Orc.nothing, errV, optV, Option.isSome_some, Option.getD_some, h4, h5, h12, h13, h14])
        refine ⟨inR_i64 (by omega) (by omega), inR_i64 (by omega) (by omega), _, ?_, i + 1, out, by omega, rfl, ?_, ?_, ?_, hs2, ?_⟩
        · omega
        · have := hdl out hd
          exact ⟨by have := this.1; omega, this.2⟩
        · rw [e1, hst]
        · rw [e2, hst]; simp only; omega
        · simp
    · have hie : i = es.length := by omega
      subst hie
      rw [List.drop_length, runR] at e1 e2
      refine RetV.pure hsub ?_
      rw [e1, e2]
      simp
set_option maxRecDepth 100000 in
theorem rrun_c (l : List Nd) (es : List Ed) (N M : Nat) (hl : Len N l) (hes : ∀ x ∈ es, Len M x.sub) (hN : N + M * es.length ≤ 5000) (hM : M ≤ 5000) (hel : es.length ≤ 5000) : PFun Try.prog 29 [encNs l, encEs es] (.tup [encNs (runR l es).1, vI (runR l es).2]) := fun σ => by
  refine Contract.of_runs Try.func29 e29 k29 (by simp [c29]) ?_
  refine Runs.mix 9 ?_
  (refine Runs.of_step Orc.nothing 300 ?_; simp -implicitDefEqProofs only [BB, Int.reduceEq, Int.reduceNe, Int.reduceLT, Int.reduceLE, Int.reduceGT, Int.reduceGE, Nat.reduceEqDiff, Nat.reduceAdd, Nat.reduceMul, Nat.reduceLeDiff, Nat.reduceSub, Nat.reduceLT, Nat.reduceBEq, ↓reduceIte, reduceCtorEq, ← decide_not, okind, vpre, vpure, intBin, intPre, strBin, strPre, popTo, argSlots, fldV, fldAV, subCells, idxVV, idxAAV, idxSV, sliceV, sliceSV, boundV, szIs, storeOp, storeS, setRowV, eff, extV, buildV, splice, eqSV, fitsL, eqCells, eqCell, minmaxV, capV, binBV, nilCheckV, bytesV, V.cells, V.stays, Orc.nothing, c29])
  refine Runs.loop (fun m st => ∃ (i : Nat) (l' : List Nd), i ≤ es.length ∧ m = es.length - i ∧ Len (N + M * i) l' ∧ (runR l es).1 = (runR l' (es.drop i)).1 ∧ (runR l es).2 = (runR l' (es.drop i)).2 + i ∧ st.σ = σ ∧
    st.s 0 = encNs l' ∧ st.s 1 = encEs es ∧ st.s 6 = vI i) es.length ?_ ?_
  · exact ⟨0, l, by omega, by omega, by simpa using hl, rfl, rfl, rfl, rfl, rfl, rfl⟩
  · rintro m ⟨s, σ'⟩ ⟨i, l', hi, rfl, hl', e1, e2, hσ, h0, h1, h6⟩
    simp only at hσ h0 h1 h6
    subst hσ
    refine Runs.mix 9 ?_
    (refine Runs.of_step Orc.nothing 300 ?_; simp -implicitDefEqProofs only [BB, Int.reduceEq, Int.reduceNe, Int.reduceLT, Int.reduceLE, Int.reduceGT, Int.reduceGE, Nat.reduceEqDiff, Nat.reduceAdd, Nat.reduceMul, Nat.reduceLeDiff, Nat.reduceSub, Nat.reduceLT, Nat.reduceBEq, ↓reduceIte, reduceCtorEq, ← decide_not, okind, vpre, vpure, intBin, intPre, strBin, strPre, popTo, argSlots, fldV, fldAV, subCells, idxVV, idxAAV, idxSV, sliceV, sliceSV, boundV, szIs, storeOp, storeS, setRowV, eff, extV, buildV, splice, eqSV, fitsL, eqCells, eqCell, minmaxV, capV, binBV, nilCheckV, bytesV, V.cells, V.stays, Orc.nothing, h0, h1, h6, lenV_encEs])
    refine And.intro (fun hlt => ?_) (fun hge => ?_)
    · have hil : i < es.length := by omega
      have hx := hes _ (List.getElem_mem hil)
      have hMi : M * i ≤ M * es.length := Nat.mul_le_mul_left _ (by omega)
      have hMs : M * (i + 1) = M * i + M := Nat.mul_succ M i
      have hst := runR_step (l := l') hil
      have hle := fun σ => loadV_rp_encE σ es[i]
      have hdc := rdo_c l' es[i] (hl'.hlf (by omega)) (hx.hlf (by omega))
      have hdl := fun out (h : doR l' es[i] = some out) => doR_len hl' hx h
      have hrd := ref_do l' es[i]
      obtain ⟨cs, hcs⟩ : ∃ v, v = encE es[i] := ⟨_, rfl⟩
      have hidx := fun σ => idxAV_encEs (σ := σ) hil
      rw [← hcs] at hdc hle
      simp only [← hcs] at hidx
      simp -implicitDefEqProofs only [BB, Int.reduceEq, Int.reduceNe, Int.reduceLT, Int.reduceLE, Int.reduceGT, Int.reduceGE, Nat.reduceEqDiff, Nat.reduceAdd, Nat.reduceMul, Nat.reduceLeDiff, Nat.reduceSub, Nat.reduceLT, Nat.reduceBEq, ↓reduceIte, reduceCtorEq, ← decide_not, okind, vpre, vpure, intBin, intPre, strBin, strPre, popTo, argSlots, fldV, fldAV, subCells, idxVV, idxAAV, idxSV, sliceV, sliceSV, boundV, szIs, storeOp, storeS, setRowV, eff, extV, buildV, splice, eqSV, fitsL, eqCells, eqCell, minmaxV, capV, binBV, nilCheckV, bytesV, hidx, hle, V.cells_agg, V.cells_int, V.cells_nils, V.cells_own, V.cells_sl, V.cells_str, V.cells_bool, V.cells_fn, V.cells_ptr, V.cells_rp, V.stays_agg, V.stays_int, V.stays_nils, V.stays_own, V.stays_sl, V.stays_str, V.stays_bool, V.stays_fn, V.stays_ptr, V.stays_rp, h0, h1, h6]
      refine Runs.pcall rfl rfl rfl (hdc _) ?_
      cases hok : (refDoR l' es[i]).2
      · rw [hok] at hrd
        simp only [Bool.false_eq_true, if_false] at hrd
        rw [hrd] at hst
        (refine Runs.of_step Orc.nothing 300 ?_; simp -implicitDefEqProofs only [BB, Int.reduceEq, Int.reduceNe, Int.reduceLT, Int.reduceLE, Int.reduceGT, Int.reduceGE, Nat.reduceEqDiff, Nat.reduceAdd, Nat.reduceMul, Nat.reduceLeDiff, Nat.reduceSub, Nat.reduceLT, Nat.reduceBEq, ↓reduceIte, reduceCtorEq, ← decide_not, okind, vpre, vpure, intBin, intPre, strBin, strPre, popTo, argSlots, fldV, fldAV, subCells, idxVV, idxAAV, idxSV, sliceV, sliceSV, boundV, szIs, storeOp, storeS, setRowV, eff, extV, buildV, splice, eqSV, fitsL, eqCells, eqCell, minmaxV, capV, binBV, nilCheckV, bytesV, V.cells, V.stays, Orc.nothing, h0, h1, h6, hok])
        refine RetV.same ?_
        rw [e1, e2, hst]
        simp
      · rw [hok] at hrd
        simp only [if_true] at hrd
        have hdo := hdl _ hrd
        rw [hrd] at hst
        (refine Runs.of_step Orc.nothing 300 ?_; simp -implicitDefEqProofs only [BB, Int.reduceEq, Int.reduceNe, Int.reduceLT, Int.reduceLE, Int.reduceGT, Int.reduceGE, Nat.reduceEqDiff, Nat.reduceAdd, Nat.reduceMul, Nat.reduceLeDiff, Nat.reduceSub, Nat.reduceLT, Nat.reduceBEq, ↓reduceIte, reduceCtorEq, ← decide_not, okind, vpre, vpure, intBin, intPre, strBin, strPre, popTo, argSlots, fldV, fldAV, subCells, idxVV, idxAAV, idxSV, sliceV, sliceSV, boundV, szIs, storeOp, storeS, setRowV, eff, extV, buildV, splice, eqSV, fitsL, eqCells, eqCell, minmaxV, capV, binBV, nilCheckV, bytesV, V.cells, V.stays, Orc.nothing, h0, h1, h6, hok])
        refine ⟨inR_i64 (by omega) (by omega), _, ?_, i + 1, (refDoR l' es[i]).1, by omega, rfl, ?_, ?_, ?_, rfl, ?_⟩
        · omega
        · exact ⟨by have := hdo.1; omega, hdo.2⟩
        · rw [e1, hst]
        · rw [e2, hst]; simp only; omega
        · simp
    · have hie : i = es.length := by omega
      subst hie
      rw [List.drop_length, runR] at e1 e2
      refine RetV.same ?_
      rw [e1, e2]
      simp
end Go.Vc
namespace Go.Vc
open Go.Proofs
theorem Srt.inj {a : Int} {l : List Int} (h : Srt a l) {i j : Nat} {x : Int} (hi : l[i]? = some x) (hj : l[j]? = some x) : i = j := by
  rcases Nat.le_total i j with hl | hl
  · have := Srt.lt_of_get h i j x x hl hi hj; omega
  · have := Srt.lt_of_get h j i x x hl hj hi; omega
end Go.Vc
namespace Go.Vc
open Go.Proofs
theorem runR_len (M : Nat) : ∀ (es : List Ed) (l : List Nd) (N : Nat), Len N l → (∀ x ∈ es, Len M x.sub) → Len (N + M * es.length) (runR l es).1
  | [], l, N, h, _ => by simpa [runR] using h
  | x :: es, l, N, h, hx => by
    rw [runR]
    have hm : M * (es.length + 1) = M * es.length + M := Nat.mul_succ M es.length
    cases hd : doR l x with
    | none => exact ⟨by have := h.1; simp only [List.length_cons]; omega, h.2⟩
    | some out =>
      have h1 := doR_len h (hx x (by simp)) hd
      have := runR_len M es out (N + M) h1 (fun y hy => hx y (by simp [hy]))
      simp only [List.length_cons]
      exact ⟨by have := this.1; omega, this.2⟩
set_option maxRecDepth 100000 in
theorem editRuns_c (l : List Nd) (es : List Ed) (hl : l.length ≤ 1000000000000) (hw : ∀ x ∈ l, x.words.length ≤ 200000000000000) (hes : es.length ≤ 1000000000000)
    (hs : ∀ e ∈ es, e.sub.length ≤ 1000000000000 ∧ ∀ x ∈ e.sub, x.words.length ≤ 200000000000000) : PFun Try.prog 7 [encNs l, encEs es] (.bool true) := fun σ => by
  refine Contract.of_runs Try.func7 e7 k7 (by simp [c7]) ?_
  refine Runs.mix 11 ?_
  (refine Runs.of_step Orc.nothing 300 ?_; simp -implicitDefEqProofs only [BB, Int.reduceEq, Int.reduceNe, Int.reduceLT, Int.reduceLE, Int.reduceGT, Int.reduceGE, Nat.reduceEqDiff, Nat.reduceAdd, Nat.reduceMul, Nat.reduceLeDiff, Nat.reduceSub, Nat.reduceLT, Nat.reduceBEq, ↓reduceIte, reduceCtorEq, ← decide_not, okind, vpre, vpure, intBin, intPre, strBin, strPre, popTo, argSlots, fldV, fldAV, subCells, idxVV, idxAAV, idxSV, sliceV, sliceSV, boundV, szIs, storeOp, storeS, setRowV, eff, extV, buildV, splice, eqSV, fitsL, eqCells, eqCell, minmaxV, capV, binBV, nilCheckV, bytesV, V.cells, V.stays, Orc.nothing, c7])
  refine Runs.pcall rfl rfl rfl (vast_c l hl hw _) ?_
  cases hv : vastR l
  · (refine Runs.of_step Orc.nothing 300 ?_; simp -implicitDefEqProofs only [BB, Int.reduceEq, Int.reduceNe, Int.reduceLT, Int.reduceLE, Int.reduceGT, Int.reduceGE, Nat.reduceEqDiff, Nat.reduceAdd, Nat.reduceMul, Nat.reduceLeDiff, Nat.reduceSub, Nat.reduceLT, Nat.reduceBEq, ↓reduceIte, reduceCtorEq, ← decide_not, okind, vpre, vpure, intBin, intPre, strBin, strPre, popTo, argSlots, fldV, fldAV, subCells, idxVV, idxAAV, idxSV, sliceV, sliceSV, boundV, szIs, storeOp, storeS, setRowV, eff, extV, buildV, splice, eqSV, fitsL, eqCells, eqCell, minmaxV, capV, binBV, nilCheckV, bytesV, V.cells, V.stays, Orc.nothing, lenV_encEs])
    refine And.intro (fun h8 => ?_) (fun h8 => ?_)
    · refine Runs.pcall rfl rfl rfl (awake36_c _) ?_
      (refine Runs.of_step Orc.nothing 300 ?_; simp -implicitDefEqProofs only [BB, Int.reduceEq, Int.reduceNe, Int.reduceLT, Int.reduceLE, Int.reduceGT, Int.reduceGE, Nat.reduceEqDiff, Nat.reduceAdd, Nat.reduceMul, Nat.reduceLeDiff, Nat.reduceSub, Nat.reduceLT, Nat.reduceBEq, ↓reduceIte, reduceCtorEq, ← decide_not, okind, vpre, vpure, intBin, intPre, strBin, strPre, popTo, argSlots, fldV, fldAV, subCells, idxVV, idxAAV, idxSV, sliceV, sliceSV, boundV, szIs, storeOp, storeS, setRowV, eff, extV, buildV, splice, eqSV, fitsL, eqCells, eqCell, minmaxV, capV, binBV, nilCheckV, bytesV, V.cells, V.stays, Orc.nothing])
      exact RetV.same rfl
    · have hL := vastR_len hv
      refine Runs.loop (fun m st => ∃ (i : Nat), i ≤ es.length ∧ m = es.length - i ∧ (∀ x ∈ es.take i, vastR x.sub = false) ∧ st.σ = σ ∧ st.s 0 = encNs l ∧ st.s 1 = encEs es ∧ st.s 5 = vI i) es.length ?_ ?_
      · exact ⟨0, by omega, by omega, by simp, rfl, rfl, rfl, rfl⟩
      · rintro m ⟨s, σ'⟩ ⟨i, hi, rfl, hpre, hσ, h0, h1, h5⟩
        simp only at hσ h0 h1 h5
        subst hσ
        refine Runs.mix 11 ?_
        (refine Runs.of_step Orc.nothing 300 ?_; simp -implicitDefEqProofs only [BB, Int.reduceEq, Int.reduceNe, Int.reduceLT, Int.reduceLE, Int.reduceGT, Int.reduceGE, Nat.reduceEqDiff, Nat.reduceAdd, Nat.reduceMul, Nat.reduceLeDiff, Nat.reduceSub, Nat.reduceLT, Nat.reduceBEq, ↓reduceIte, reduceCtorEq, ← decide_not, okind, vpre, vpure, intBin, intPre, strBin, strPre, popTo, argSlots, fldV, fldAV, subCells, idxVV, idxAAV, idxSV, sliceV, sliceSV, boundV, szIs, storeOp, storeS, setRowV, eff, extV, buildV, splice, eqSV, fitsL, eqCells, eqCell, minmaxV, capV, binBV, nilCheckV, bytesV, V.cells, V.stays, Orc.nothing, h0, h1, h5, lenV_encEs])
        refine And.intro (fun hlt => ?_) (fun hge => ?_)
        · have hil : i < es.length := by omega
          have hx := hs _ (List.getElem_mem hil)
          have hidx := fun σ => idxAV_encEs (σ := σ) hil
          have htk : es.take (i + 1) = es.take i ++ [es[i]] := List.take_succ_eq_append_getElem hil
          generalize es[i] = x at *
          have hlo : ∀ σ : Store, loadV σ false 1 (.rp (encNs x.sub)) = some (encNs x.sub) := fun σ => loadV_rp_encNs σ x.sub
          simp -implicitDefEqProofs only [BB, Int.reduceEq, Int.reduceNe, Int.reduceLT, Int.reduceLE, Int.reduceGT, Int.reduceGE, Nat.reduceEqDiff, Nat.reduceAdd, Nat.reduceMul, Nat.reduceLeDiff, Nat.reduceSub, Nat.reduceLT, Nat.reduceBEq, ↓reduceIte, reduceCtorEq, ← decide_not, okind, vpre, vpure, intBin, intPre, strBin, strPre, popTo, argSlots, fldV, fldAV, subCells, idxVV, idxAAV, idxSV, sliceV, sliceSV, boundV, szIs, storeOp, storeS, setRowV, eff, extV, buildV, splice, eqSV, fitsL, eqCells, eqCell, minmaxV, capV, binBV, nilCheckV, bytesV, V.cells, V.stays, hidx, encE, Ed.cells, hlo, h0, h1, h5]
          refine Runs.pcall rfl rfl rfl (vast_c x.sub hx.1 hx.2 _) ?_
          cases hvx : vastR x.sub
          · (refine Runs.of_step Orc.nothing 300 ?_; simp -implicitDefEqProofs only [BB, Int.reduceEq, Int.reduceNe, Int.reduceLT, Int.reduceLE, Int.reduceGT, Int.reduceGE, Nat.reduceEqDiff, Nat.reduceAdd, Nat.reduceMul, Nat.reduceLeDiff, Nat.reduceSub, Nat.reduceLT, Nat.reduceBEq, ↓reduceIte, reduceCtorEq, ← decide_not, okind, vpre, vpure, intBin, intPre, strBin, strPre, popTo, argSlots, fldV, fldAV, subCells, idxVV, idxAAV, idxSV, sliceV, sliceSV, boundV, szIs, storeOp, storeS, setRowV, eff, extV, buildV, splice, eqSV, fitsL, eqCells, eqCell, minmaxV, capV, binBV, nilCheckV, bytesV, V.cells, V.stays, Orc.nothing, h0, h1, h5])
            refine ⟨inR_i64 (by omega) (by omega), _, ?_, i + 1, by omega, rfl, ?_, ?_⟩
            · omega
            · intro y hy
              rw [htk, List.mem_append] at hy
              rcases hy with hy | hy
              · exact hpre y hy
              · simp at hy; rw [hy]; exact hvx
            · simp
          · (refine Runs.of_step Orc.nothing 300 ?_; simp -implicitDefEqProofs only [BB, Int.reduceEq, Int.reduceNe, Int.reduceLT, Int.reduceLE, Int.reduceGT, Int.reduceGE, Nat.reduceEqDiff, Nat.reduceAdd, Nat.reduceMul, Nat.reduceLeDiff, Nat.reduceSub, Nat.reduceLT, Nat.reduceBEq, ↓reduceIte, reduceCtorEq, ← decide_not, okind, vpre, vpure, intBin, intPre, strBin, strPre, popTo, argSlots, fldV, fldAV, subCells, idxVV, idxAAV, idxSV, sliceV, sliceSV, boundV, szIs, storeOp, storeS, setRowV, eff, extV, buildV, splice, eqSV, fitsL, eqCells, eqCell, minmaxV, capV, binBV, nilCheckV, bytesV, V.cells, V.stays, Orc.nothing, h0, h1, h5])
            refine Runs.pcall rfl rfl rfl (awake36_c _) ?_
            (refine Runs.of_step Orc.nothing 300 ?_; simp -implicitDefEqProofs only [BB, Int.reduceEq, Int.reduceNe, Int.reduceLT, Int.reduceLE, Int.reduceGT, Int.reduceGE, Nat.reduceEqDiff, Nat.reduceAdd, Nat.reduceMul, Nat.reduceLeDiff, Nat.reduceSub, Nat.reduceLT, Nat.reduceBEq, ↓reduceIte, reduceCtorEq, ← decide_not, okind, vpre, vpure, intBin, intPre, strBin, strPre, popTo, argSlots, fldV, fldAV, subCells, idxVV, idxAAV, idxSV, sliceV, sliceSV, boundV, szIs, storeOp, storeS, setRowV, eff, extV, buildV, splice, eqSV, fitsL, eqCells, eqCell, minmaxV, capV, binBV, nilCheckV, bytesV, V.cells, V.stays, Orc.nothing])
            exact RetV.same rfl
        · have hie : i = es.length := by omega
          subst hie
          rw [List.take_length] at hpre
          have hE : ∀ x ∈ es, Len 40 x.sub := fun x hx => vastR_len (hpre x hx)
          have hF := runR_len 40 es l 40 hL hE
          refine Runs.pcall rfl rfl rfl (own_c l (hL.hlf (by omega)).sml _) ?_
          (refine Runs.of_step Orc.nothing 300 ?_; simp -implicitDefEqProofs only [BB, Int.reduceEq, Int.reduceNe, Int.reduceLT, Int.reduceLE, Int.reduceGT, Int.reduceGE, Nat.reduceEqDiff, Nat.reduceAdd, Nat.reduceMul, Nat.reduceLeDiff, Nat.reduceSub, Nat.reduceLT, Nat.reduceBEq, ↓reduceIte, reduceCtorEq, ← decide_not, okind, vpre, vpure, intBin, intPre, strBin, strPre, popTo, argSlots, fldV, fldAV, subCells, idxVV, idxAAV, idxSV, sliceV, sliceSV, boundV, szIs, storeOp, storeS, setRowV, eff, extV, buildV, splice, eqSV, fitsL, eqCells, eqCell, minmaxV, capV, binBV, nilCheckV, bytesV, V.cells, V.stays, Orc.nothing, h0, h1, h5])
          refine Runs.pcall rfl rfl rfl (run_c l es 40 40 hL hE (by omega) (by omega) (by omega) _) ?_
          (refine Runs.of_step Orc.nothing 300 ?_; simp -implicitDefEqProofs only [BB, Int.reduceEq, Int.reduceNe, Int.reduceLT, Int.reduceLE, Int.reduceGT, Int.reduceGE, Nat.reduceEqDiff, Nat.reduceAdd, Nat.reduceMul, Nat.reduceLeDiff, Nat.reduceSub, Nat.reduceLT, Nat.reduceBEq, ↓reduceIte, reduceCtorEq, ← decide_not, okind, vpre, vpure, intBin, intPre, strBin, strPre, popTo, argSlots, fldV, fldAV, subCells, idxVV, idxAAV, idxSV, sliceV, sliceSV, boundV, szIs, storeOp, storeS, setRowV, eff, extV, buildV, splice, eqSV, fitsL, eqCells, eqCell, minmaxV, capV, binBV, nilCheckV, bytesV, V.cells, V.stays, Orc.nothing, h0, h1, h5])
          refine Runs.pcall rfl rfl rfl (rrun_c l es 40 40 hL hE (by omega) (by omega) (by omega) _) ?_
          have hFf : Fine (runR l es).1 := (hF.hlf (by omega)).sml.fine
          (refine Runs.of_step Orc.nothing 300 ?_; simp -implicitDefEqProofs only [BB, Int.reduceEq, Int.reduceNe, Int.reduceLT, Int.reduceLE, Int.reduceGT, Int.reduceGE, Nat.reduceEqDiff, Nat.reduceAdd, Nat.reduceMul, Nat.reduceLeDiff, Nat.reduceSub, Nat.reduceLT, Nat.reduceBEq, ↓reduceIte, reduceCtorEq, ← decide_not, okind, vpre, vpure, intBin, intPre, strBin, strPre, popTo, argSlots, fldV, fldAV, subCells, idxVV, idxAAV, idxSV, sliceV, sliceSV, boundV, szIs, storeOp, storeS, setRowV, eff, extV, buildV, splice, eqSV, fitsL, eqCells, eqCell, minmaxV, capV, binBV, nilCheckV, bytesV, V.cells, V.stays, Orc.nothing, h0, h1, h5])
          refine Runs.pcall rfl rfl rfl (same5_c _ _ hFf hFf _) ?_
          have ht : ∀ a : List Nd, decide (a = a) = true := fun a => decide_eq_true rfl
          (refine Runs.of_step Orc.nothing 300 ?_; simp -implicitDefEqProofs only [BB, Int.reduceEq, Int.reduceNe, Int.reduceLT, Int.reduceLE, Int.reduceGT, Int.reduceGE, Nat.reduceEqDiff, Nat.reduceAdd, Nat.reduceMul, Nat.reduceLeDiff, Nat.reduceSub, Nat.reduceLT, Nat.reduceBEq, ↓reduceIte, reduceCtorEq, ← decide_not, okind, vpre, vpure, intBin, intPre, strBin, strPre, popTo, argSlots, fldV, fldAV, subCells, idxVV, idxAAV, idxSV, sliceV, sliceSV, boundV, szIs, storeOp, storeS, setRowV, eff, extV, buildV, splice, eqSV, fitsL, eqCells, eqCell, minmaxV, capV, binBV, nilCheckV, bytesV, V.cells, V.stays, Orc.nothing, ht, h0, h1, h5])
          refine Runs.pcall rfl rfl rfl (same5_c l l (hL.hlf (by omega)).sml.fine (hL.hlf (by omega)).sml.fine _) ?_
          (refine Runs.of_step Orc.nothing 300 ?_; simp -implicitDefEqProofs only [BB, Int.reduceEq, Int.reduceNe, Int.reduceLT, Int.reduceLE, Int.reduceGT, Int.reduceGE, Nat.reduceEqDiff, Nat.reduceAdd, Nat.reduceMul, Nat.reduceLeDiff, Nat.reduceSub, Nat.reduceLT, Nat.reduceBEq, ↓reduceIte, reduceCtorEq, ← decide_not, okind, vpre, vpure, intBin, intPre, strBin, strPre, popTo, argSlots, fldV, fldAV, subCells, idxVV, idxAAV, idxSV, sliceV, sliceSV, boundV, szIs, storeOp, storeS, setRowV, eff, extV, buildV, splice, eqSV, fitsL, eqCells, eqCell, minmaxV, capV, binBV, nilCheckV, bytesV, V.cells, V.stays, Orc.nothing, ht])
          refine Runs.pcall rfl rfl rfl (awake36_c _) ?_
          (refine Runs.of_step Orc.nothing 300 ?_; simp -implicitDefEqProofs only [BB, Int.reduceEq, Int.reduceNe, Int.reduceLT, Int.reduceLE, Int.reduceGT, Int.reduceGE, Nat.reduceEqDiff, Nat.reduceAdd, Nat.reduceMul, Nat.reduceLeDiff, Nat.reduceSub, Nat.reduceLT, Nat.reduceBEq, ↓reduceIte, reduceCtorEq, ← decide_not, okind, vpre, vpure, intBin, intPre, strBin, strPre, popTo, argSlots, fldV, fldAV, subCells, idxVV, idxAAV, idxSV, sliceV, sliceSV, boundV, szIs, storeOp, storeS, setRowV, eff, extV, buildV, splice, eqSV, fitsL, eqCells, eqCell, minmaxV, capV, binBV, nilCheckV, bytesV, V.cells, V.stays, Orc.nothing])
          exact RetV.same rfl
  · (refine Runs.of_step Orc.nothing 300 ?_; simp -implicitDefEqProofs only [BB, Int.reduceEq, Int.reduceNe, Int.reduceLT, Int.reduceLE, Int.reduceGT, Int.reduceGE, Nat.reduceEqDiff, Nat.reduceAdd, Nat.reduceMul, Nat.reduceLeDiff, Nat.reduceSub, Nat.reduceLT, Nat.reduceBEq, ↓reduceIte, reduceCtorEq, ← decide_not, okind, vpre, vpure, intBin, intPre, strBin, strPre, popTo, argSlots, fldV, fldAV, subCells, idxVV, idxAAV, idxSV, sliceV, sliceSV, boundV, szIs, storeOp, storeS, setRowV, eff, extV, buildV, splice, eqSV, fitsL, eqCells, eqCell, minmaxV, capV, binBV, nilCheckV, bytesV, V.cells, V.stays, Orc.nothing])
    refine Runs.pcall rfl rfl rfl (awake36_c _) ?_
    (refine Runs.of_step Orc.nothing 300 ?_; simp -implicitDefEqProofs only [BB, Int.reduceEq, Int.reduceNe, Int.reduceLT, Int.reduceLE, Int.reduceGT, Int.reduceGE, Nat.reduceEqDiff, Nat.reduceAdd, Nat.reduceMul, Nat.reduceLeDiff, Nat.reduceSub, Nat.reduceLT, Nat.reduceBEq, ↓reduceIte, reduceCtorEq, ← decide_not, okind, vpre, vpure, intBin, intPre, strBin, strPre, popTo, argSlots, fldV, fldAV, subCells, idxVV, idxAAV, idxSV, sliceV, sliceSV, boundV, szIs, storeOp, storeS, setRowV, eff, extV, buildV, splice, eqSV, fitsL, eqCells, eqCell, minmaxV, capV, binBV, nilCheckV, bytesV, V.cells, V.stays, Orc.nothing])
    exact RetV.same rfl
section
variable {P : Program} {n : Nat} {Q : St → Prop}
end
theorem OutV.src {K σ : Store} {e sz : Nat} {v : V} {rows : List V} (h : OutV K σ e sz v rows) {σ1 : Store} (hs : SubStore σ σ1) : srcRows σ1 sz v = some rows := by
  rcases h with ⟨rfl, rfl⟩ | ⟨id, rfl, ho, hk⟩
  · rfl
  · simp only [srcRows, hs _ _ ho]
    rw [if_pos (by simp)]
    simp
end Go.Vc
namespace Go.Vc
open Go.Proofs
set_option maxRecDepth 100000 in
theorem cells_39 : Try.prog.cellsOf 39 = 17 := by kernel_rfl
set_option maxRecDepth 100000 in
theorem agg_39 : aggT Try.prog 39 = true := by kernel_rfl
set_option maxRecDepth 100000 in
theorem agg_52 : aggT Try.prog 52 = false := by kernel_rfl
theorem bytes_39 : Try.prog.bytesOf 39 = 152 := by kernel_rfl
def Nd.realL (l : List Nd) : Prop := l.length ≤ 800000000000 ∧ ∀ x ∈ l, x.real
def Ed.real (x : Ed) : Prop := Nd.realL x.sub
theorem realL_lim {l : List Nd} (h : Nd.realL l) : l.length ≤ 1000000000000 ∧ ∀ x ∈ l, x.words.length ≤ 200000000000000 :=
  ⟨by have := h.1; omega, fun x hx => by have := (h.2 x hx).2.1; omega⟩
set_option maxRecDepth 100000 in
theorem shp_edit {n : Nat} {vs : List V} (h : ShpC Try.prog (n + 5) 39 vs) : ∃ x : Ed, vs = x.cells ∧ x.real := by
  replace h := shpC_struct Try.underlying39 h
  simp only [ShpFs] at h
  obtain ⟨_, _, rfl, h1, _, _, rfl, h2, _, _, rfl, h3, _, _, rfl, h4, _, _, rfl, h5, _, _, rfl, h6, rfl⟩ := h
  obtain ⟨m1, rfl, g1⟩ := shp_int h1
  obtain ⟨m2, rfl, g2⟩ := shp_int h2
  obtain ⟨m3, rfl, g3⟩ := shp_int h3
  obtain ⟨m4, rfl, g4⟩ := shp_int h4
  obtain ⟨l, rfl, g5, g5'⟩ := shp_nodes h5
  obtain ⟨s, rfl, g6⟩ := shp_style h6
  exact ⟨⟨m1, m2, m3, m4, l, s⟩, rfl, g5, g5'⟩
set_option maxRecDepth 100000 in
theorem arg_edits {n : Nat} {vs : List V} (h : ShpC Try.prog (n + 6) 52 vs) : ∃ l, argOf Try.prog 52 vs = encEs l ∧ l.length ≤ 1000000000000 ∧ ∀ x ∈ l, x.real := by
  obtain ⟨rows, rfl, hl, h⟩ := shpC_slice Try.underlying52 h
  obtain ⟨l, rfl, hp⟩ := maps_of (f := encE) (p := Ed.real) fun r hr => by
    obtain ⟨cs, hc, rfl⟩ := h r hr
    obtain ⟨x, rfl, hx⟩ := shp_edit hc
    exact ⟨x, by rw [agg_39]; rfl, hx⟩
  rw [bytes_39] at hl
  simp only [List.length_map, reachBytes] at hl
  exact ⟨l, by unfold argOf; rw [agg_52, cells_39]; rfl, by omega, hp⟩
set_option maxRecDepth 100000 in
theorem arg_nodesL {n : Nat} {vs : List V} (h : ShpC Try.prog (n + 4) 22 vs) : ∃ l, argOf Try.prog 22 vs = encNs l ∧ Nd.realL l := by
  obtain ⟨l, h1, h2, h3⟩ := arg_nodes h
  exact ⟨l, h1, h2, h3⟩
end Go.Vc
