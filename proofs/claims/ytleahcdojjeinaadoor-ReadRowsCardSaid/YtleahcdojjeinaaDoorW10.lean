/- Part 10 of the library of this proof. -/
import Derived.Test.YtleahcdojjeinaaDoorW9
set_option linter.all false
namespace Go.Vc
open Go.Proofs
theorem keepA {K J τ τ' : Store} {idA : Option Nat} (hA : ∀ i, idA = some i → K i = none ∧ ∃ o, J i = some o) (s : SubStore (delO τ idA) τ') (q : Nat) (o : Ob) (hq : K q ≠ none) (ho : τ q = some o) : τ' q = some o := by
  refine s _ _ ?_
  cases h : idA with
  | none => exact ho
  | some j =>
    have hj := (hA j h).1
    have : q ≠ j := fun e => hq (by rw [e]; exact hj)
    show del τ j q = some o
    rw [del_ne this]
    exact ho
theorem encS_cells (x : Shp) : (encS x).cells = [encS x] := by cases x <;> simp [encS, V.cells]
theorem encS_stays (x : Shp) : (encS x).stays = true := by cases x <;> simp [encS, V.stays]
structure NInv (σ0 σ : Store) (id : Nat) (v : V) (xs : List Shp) (l : List Tk) (w : Bool) : Prop where
  off : Off id σ0 σ
  rd : σ id = some (rdr l w)
  out : OutV σ0 σ 101 1 v (xs.map encS)
  len : xs.length + l.length ≤ 1000000
theorem outOff {σ σc σd : Store} {id e sz : Nat} {X : Ob} {v : V} {rows : List V} (h : σ id ≠ none) (ho : OutV σ σc e sz v rows) (hd : σd = upd σc id X) : OutV σ σd e sz v rows := by
  rcases ho with h1 | ⟨q, g1, g2, g3⟩
  · exact .inl h1
  · have hq : q ≠ id := fun e => h (by rw [← e]; exact g3)
    exact .inr ⟨q, g1, by rw [hd, upd_ne hq]; exact g2, g3⟩
theorem NInv.push {σ σd σ21 σ22 : Store} {id id22 : Nat} {xs : List Shp} {l : List Tk} {w : Bool} {x : Shp} {idA : Option Nat} (off : Off id σ σd) (rd : σd id = some (rdr l w)) (h : σ id ≠ none) (s21 : SubStore σd σ21)
    (hA : ∀ i, idA = some i → σ i = none ∧ ∃ o, σd i = some o) (s22 : SubStore (delO σ21 idA) σ22) (a22 : σ22 id22 = some ⟨101, 1, xs.map encS ++ [encS x]⟩) (f22 : σ21 id22 = none) (hl : xs.length + 1 + l.length ≤ 1000000) :
    NInv σ σ22 id (.own id22 0 (xs.length + 1)) (xs ++ [x]) l w where
  off := fun q hq o ho => keepA hA s22 q o (by rw [ho]; simp) (s21 _ _ (off q hq o ho))
  rd := keepA hA s22 id _ h (s21 _ _ rd)
  out := by
    rw [List.map_append]
    exact OutV.new (by simp) a22 (off.none rd (s21.none f22))
  len := by simp only [List.length_append, List.length_cons, List.length_nil]; omega
theorem nodesR_len : ∀ (f : Nat) (l : List Tk), (nodesR f l).2.1.length ≤ l.length
  | 0, l => Nat.le_refl _
  | f + 1, l => by
    have hT : ∀ l w, (if w = true then (([] : List Shp), l, true) else nodesR f l).2.1.length ≤ l.length := by
      intro l w
      split
      · exact Nat.le_refl _
      · exact nodesR_len f l
    unfold nodesR
    split
    · rename_i hs
      have h1 := (takeR_yes hs).2
      have h2 := (attrsT_len (fun _ => true) plainS l.tail false).2
      have h3 := hT (attrsT (fun _ => true) plainS l.tail false).2.1 (attrsT (fun _ => true) plainS l.tail false).2.2
      simp only
      generalize attrsT (fun _ => true) plainS l.tail false = a at *
      generalize (if a.2.2 = true then (([] : List Shp), a.2.1, true) else nodesR f a.2.1) = n at *
      have h4 := takeR_len 93 n.2.1 n.2.2
      generalize takeR 93 n.2.1 n.2.2 = c at *
      have h5 := hT c.1 c.2
      omega
    · split
      · rename_i hs
        have h1 := textR_len hs
        simp only
        have h5 := hT (textR l).2.1 (textR l).2.2
        omega
      · split
        · rename_i hs
          have h1 := (takeR_yes hs).2
          have h2 := boxR_len 125 l.tail false
          simp only
          have h5 := hT (boxR 125 l.tail false).2.2.1 (boxR 125 l.tail false).2.2.2
          omega
        · split
          · rename_i hs
            have h1 := floatR_len hs
            simp only
            have h5 := hT (floatR l false).2.1 (floatR l false).2.2
            omega
          · exact Nat.le_refl _
theorem nodesT_len (f : Nat) (l : List Tk) (w : Bool) : (nodesT f l w).2.1.length ≤ l.length := by
  unfold nodesT
  split
  · exact Nat.le_refl _
  · exact nodesR_len f l
set_option maxRecDepth 100000 in
theorem nodes_c (f : Nat) : NodesC f := by
  induction f using Nat.strongRecOn with
  | _ f ih =>
    intro σ id l w hlf hl h
    refine Contract.of_runs Tryd.func34 e34 k34 (by simp [c34]) ?_
    refine Runs.mix 4 ?_
    have hσ : σ id ≠ none := by rw [h]; simp
    (refine Runs.of_step Orc.nothing 300 ?_; simp -implicitDefEqProofs only [BB, effR_some, effD_some, Int.reduceEq, Int.reduceNe, Int.reduceLT, Int.reduceLE, Int.reduceGT, Int.reduceGE, Nat.reduceEqDiff, Nat.reduceAdd, Nat.reduceMul, Nat.reduceLeDiff, Nat.reduceSub, Nat.reduceLT, Nat.reduceBEq, ↓reduceIte, reduceCtorEq, ← decide_not, okind, vpre, vpure, intBin, intPre, strBin, strPre, popTo, argSlots, fldV, fldAV, subCells, idxVV, idxAAV, idxSV, sliceV, sliceSV, boundV, szIs, storeOp, storeS, setRowV, eff, extV, buildV, splice, eqSV, fitsL, eqCells, eqCell, minmaxV, capV, binBV, nilCheckV, bytesV, V.cells, V.stays, Orc.nothing, c34])
    refine Runs.loop (fun m st => ∃ fu xs l' w', m = l'.length ∧ l'.length ≤ fu ∧ fu ≤ f ∧ nodesT f l w = (xs ++ (nodesT fu l' w').1, (nodesT fu l' w').2) ∧ NInv σ st.σ id (st.s 3) xs l' w' ∧ st.s 0 = .ptr id 0 0) l.length
      ⟨f, [], l, w, rfl, hlf, Nat.le_refl _, rfl, { off := Off.refl id σ, rd := h, out := OutV.start, len := by simpa using hl }, rfl⟩ ?_
    rintro m ⟨S, σc⟩ ⟨fu, xs, l', w', rfl, hfu, hff, hT, inv, p0⟩
    simp only at inv p0
    have rd := inv.rd
    have hlen := inv.len
    have fin : nodesT fu l' w' = ([], l', w') → RetV (S 3) σc fun r σ' => r = .sl 1 ((nodesT f l w).1.map encS) ∧ σ' = upd σ id (rdr (nodesT f l w).2.1 (nodesT f l w).2.2) := by
      intro e
      rw [hT, e, List.append_nil]
      have hout : OutV (upd σ id (rdr l' w')) σc 101 1 (S 3) (xs.map encS) := by
        rcases inv.out with h1 | ⟨q, g1, g2, g3⟩
        · exact .inl h1
        · have hq : q ≠ id := fun e => hσ (by rw [← e]; exact g3)
          exact .inr ⟨q, g1, g2, by rw [upd_ne hq]; exact g3⟩
      exact hout.retv (inv.off.to rd) rfl
    refine Runs.mix 4 ?_
    cases w' with
    | true =>
      (refine Runs.of_step Orc.nothing 300 ?_; simp -implicitDefEqProofs only [BB, effR_some, effD_some, Int.reduceEq, Int.reduceNe, Int.reduceLT, Int.reduceLE, Int.reduceGT, Int.reduceGE, Nat.reduceEqDiff, Nat.reduceAdd, Nat.reduceMul, Nat.reduceLeDiff, Nat.reduceSub, Nat.reduceLT, Nat.reduceBEq, ↓reduceIte, reduceCtorEq, ← decide_not, okind, vpre, vpure, intBin, intPre, strBin, strPre, popTo, argSlots, fldV, fldAV, subCells, idxVV, idxAAV, idxSV, sliceV, sliceSV, boundV, szIs, storeOp, storeS, setRowV, eff, extV, buildV, splice, eqSV, fitsL, eqCells, eqCell, minmaxV, capV, binBV, nilCheckV, bytesV, V.cells, V.stays, Orc.nothing, p0, rd])
      exact fin rfl
    | false =>
      have step : ∀ c, signB c l' = true → ∃ g, fu = g + 1 ∧ l'.tail.length + 1 = l'.length ∧ takeR c l' false = (l'.tail, false) := by
        intro c hc
        obtain ⟨e1, e2⟩ := takeR_yes hc
        cases fu with
        | zero => omega
        | succ g => exact ⟨g, rfl, e2, e1⟩
      (refine Runs.of_step Orc.nothing 300 ?_; simp -implicitDefEqProofs only [BB, effR_some, effD_some, Int.reduceEq, Int.reduceNe, Int.reduceLT, Int.reduceLE, Int.reduceGT, Int.reduceGE, Nat.reduceEqDiff, Nat.reduceAdd, Nat.reduceMul, Nat.reduceLeDiff, Nat.reduceSub, Nat.reduceLT, Nat.reduceBEq, ↓reduceIte, reduceCtorEq, ← decide_not, okind, vpre, vpure, intBin, intPre, strBin, strPre, popTo, argSlots, fldV, fldAV, subCells, idxVV, idxAAV, idxSV, sliceV, sliceSV, boundV, szIs, storeOp, storeS, setRowV, eff, extV, buildV, splice, eqSV, fitsL, eqCells, eqCell, minmaxV, capV, binBV, nilCheckV, bytesV, V.cells, V.stays, Orc.nothing, p0, rd])
      refine Runs.pcall rfl rfl rfl (rsign_c l' 91 _) ?_
      cases hs91 : signB 91 l' with
      | true =>
        obtain ⟨g, rfl, hlt, htk⟩ := step 91 hs91
        (refine Runs.of_step Orc.nothing 300 ?_; simp -implicitDefEqProofs only [BB, effR_some, effD_some, Int.reduceEq, Int.reduceNe, Int.reduceLT, Int.reduceLE, Int.reduceGT, Int.reduceGE, Nat.reduceEqDiff, Nat.reduceAdd, Nat.reduceMul, Nat.reduceLeDiff, Nat.reduceSub, Nat.reduceLT, Nat.reduceBEq, ↓reduceIte, reduceCtorEq, ← decide_not, okind, vpre, vpure, intBin, intPre, strBin, strPre, popTo, argSlots, fldV, fldAV, subCells, idxVV, idxAAV, idxSV, sliceV, sliceSV, boundV, szIs, storeOp, storeS, setRowV, eff, extV, buildV, splice, eqSV, fitsL, eqCells, eqCell, minmaxV, capV, binBV, nilCheckV, bytesV, V.cells, V.stays, Orc.nothing, p0])
        refine Runs.call rfl rfl rfl (block_c (ih g (by omega)) rd hfu (by omega) hs91) ?_
        have hal := attrsT_len (fun _ => true) plainS l'.tail false
        have hnl := nodesT_len g (attrsT (fun _ => true) plainS l'.tail false).2.1 (attrsT (fun _ => true) plainS l'.tail false).2.2
        have hst : nodesT (g + 1) l' false = (Shp.block (attrsT (fun _ => true) plainS l'.tail false).1 (nodesT g (attrsT (fun _ => true) plainS l'.tail false).2.1 (attrsT (fun _ => true) plainS l'.tail false).2.2).1 :: (nodesT g (takeR 93 (nodesT g (attrsT (fun _ => true) plainS l'.tail false).2.1 (attrsT (fun _ => true) plainS l'.tail false).2.2).2.1 (nodesT g (attrsT (fun _ => true) plainS l'.tail false).2.1 (attrsT (fun _ => true) plainS l'.tail false).2.2).2.2).1 (takeR 93 (nodesT g (attrsT (fun _ => true) plainS l'.tail false).2.1 (attrsT (fun _ => true) plainS l'.tail false).2.2).2.1 (nodesT g (attrsT (fun _ => true) plainS l'.tail false).2.1 (attrsT (fun _ => true) plainS l'.tail false).2.2).2.2).2).1, (nodesT g (takeR 93 (nodesT g (attrsT (fun _ => true) plainS l'.tail false).2.1 (attrsT (fun _ => true) plainS l'.tail false).2.2).2.1 (nodesT g (attrsT (fun _ => true) plainS l'.tail false).2.1 (attrsT (fun _ => true) plainS l'.tail false).2.2).2.2).1 (takeR 93 (nodesT g (attrsT (fun _ => true) plainS l'.tail false).2.1 (attrsT (fun _ => true) plainS l'.tail false).2.2).2.1 (nodesT g (attrsT (fun _ => true) plainS l'.tail false).2.1 (attrsT (fun _ => true) plainS l'.tail false).2.2).2.2).2).2) := by
          show nodesR (g + 1) l' = _
          rw [nodesR, if_pos hs91]; rfl
        generalize attrsT (fun _ => true) plainS l'.tail false = a at *
        generalize nodesT g a.2.1 a.2.2 = nn at *
        have hcl := takeR_len 93 nn.2.1 nn.2.2
        generalize takeR 93 nn.2.1 nn.2.2 = c at *
        rintro r1 σd ⟨rfl, hσd⟩
        have hσd : σd = upd σc id (rdr c.1 c.2) := hσd
        have hstep : nodesT (g + 1) l' false = (Shp.block a.1 nn.1 :: (nodesT g c.1 c.2).1, (nodesT g c.1 c.2).2) := by
          exact hst
        have hle : c.1.length + 1 ≤ l'.length := by
          omega
        rw [hstep] at hT
        have hxc := encS_cells (Shp.block a.1 nn.1)
        have hxs := encS_stays (Shp.block a.1 nn.1)
        have hout := outOff hσ inv.out hσd
        have Od : Off id σ σd := by rw [hσd]; exact inv.off.upd
        have hd : σd id = some (rdr c.1 c.2) := by rw [hσd]; exact upd_same
        generalize hX : Shp.block a.1 nn.1 = X at *
        generalize hvx : encS X = vx at *
        (refine Runs.of_step Orc.nothing 300 ?_; simp -implicitDefEqProofs only [BB, Int.reduceEq, Int.reduceNe, Int.reduceLT, Int.reduceLE, Int.reduceGT, Int.reduceGE, Nat.reduceEqDiff, Nat.reduceAdd, Nat.reduceMul, Nat.reduceLeDiff, Nat.reduceSub, Nat.reduceLT, Nat.reduceBEq, ↓reduceIte, reduceCtorEq, ← decide_not, okind, vpre, vpure, intBin, intPre, strBin, strPre, popTo, argSlots, fldV, fldAV, subCells, idxVV, idxAAV, idxSV, sliceV, sliceSV, boundV, szIs, storeOp, storeS, setRowV, eff, extV, buildV, splice, eqSV, fitsL, eqCells, eqCell, minmaxV, capV, binBV, nilCheckV, bytesV, Orc.nothing, V.cells_agg, V.cells_int, V.cells_nils, V.cells_own, V.cells_sl, V.cells_str, V.cells_bool, V.cells_fn, V.cells_ptr, V.cells_rp, V.stays_agg, V.stays_int, V.stays_nils, V.stays_own, V.stays_sl, V.stays_str, V.stays_bool, V.stays_fn, V.stays_ptr, V.stays_rp, hxc, hxs])
        refine effR_new fun id21 σ21 s21 a21 f21 => ?_
        obtain ⟨idA, hda, hdA⟩ := hout.dst' s21
        have hb : (xs.length + 1) * 17 ≤ 140737488355328 := by omega
        simp -implicitDefEqProofs only [BB, Int.reduceEq, Int.reduceNe, Int.reduceLT, Int.reduceLE, Int.reduceGT, Int.reduceGE, Nat.reduceEqDiff, Nat.reduceAdd, Nat.reduceMul, Nat.reduceLeDiff, Nat.reduceSub, Nat.reduceLT, Nat.reduceBEq, ↓reduceIte, reduceCtorEq, ← decide_not, okind, vpre, vpure, intBin, intPre, strBin, strPre, popTo, argSlots, fldV, fldAV, subCells, idxVV, idxAAV, idxSV, sliceV, sliceSV, boundV, szIs, storeOp, storeS, setRowV, eff, extV, buildV, splice, eqSV, fitsL, eqCells, eqCell, minmaxV, capV, binBV, nilCheckV, bytesV, V.cells_agg, V.cells_int, V.cells_nils, V.cells_own, V.cells_sl, V.cells_str, V.cells_bool, V.cells_fn, V.cells_ptr, V.cells_rp, V.stays_agg, V.stays_int, V.stays_nils, V.stays_own, V.stays_sl, V.stays_str, V.stays_bool, V.stays_fn, V.stays_ptr, V.stays_rp, hxc, hxs, hda, srcOne a21, List.length_map, hb]
        refine effR_put fun id22 σ22 s22 a22 f22 => ?_
        simp -implicitDefEqProofs only [BB, Int.reduceEq, Int.reduceNe, Int.reduceLT, Int.reduceLE, Int.reduceGT, Int.reduceGE, Nat.reduceEqDiff, Nat.reduceAdd, Nat.reduceMul, Nat.reduceLeDiff, Nat.reduceSub, Nat.reduceLT, Nat.reduceBEq, ↓reduceIte, reduceCtorEq, ← decide_not, okind, vpre, vpure, intBin, intPre, strBin, strPre, popTo, argSlots, fldV, fldAV, subCells, idxVV, idxAAV, idxSV, sliceV, sliceSV, boundV, szIs, storeOp, storeS, setRowV, eff, extV, buildV, splice, eqSV, fitsL, eqCells, eqCell, minmaxV, capV, binBV, nilCheckV, bytesV, V.cells, V.stays, p0]
        subst hvx
        refine ⟨c.1.length, by omega, g, xs ++ [X], c.1, c.2, rfl, by omega, by omega, by rw [hT]; simp, ?_⟩
        exact NInv.push Od hd hσ s21 hdA s22 (by exact a22) f22 (by omega)
      | false =>
        (refine Runs.of_step Orc.nothing 300 ?_; simp -implicitDefEqProofs only [BB, effR_some, effD_some, Int.reduceEq, Int.reduceNe, Int.reduceLT, Int.reduceLE, Int.reduceGT, Int.reduceGE, Nat.reduceEqDiff, Nat.reduceAdd, Nat.reduceMul, Nat.reduceLeDiff, Nat.reduceSub, Nat.reduceLT, Nat.reduceBEq, ↓reduceIte, reduceCtorEq, ← decide_not, okind, vpre, vpure, intBin, intPre, strBin, strPre, popTo, argSlots, fldV, fldAV, subCells, idxVV, idxAAV, idxSV, sliceV, sliceSV, boundV, szIs, storeOp, storeS, setRowV, eff, extV, buildV, splice, eqSV, fitsL, eqCells, eqCell, minmaxV, capV, binBV, nilCheckV, bytesV, V.cells, V.stays, Orc.nothing, p0, rd])
        refine Runs.pcall rfl rfl rfl (rsign_c l' 40 _) ?_
        cases hs40 : signB 40 l' with
        | true =>
          obtain ⟨g, rfl, hlt, htk⟩ := step 40 hs40
          (refine Runs.of_step Orc.nothing 300 ?_; simp -implicitDefEqProofs only [BB, effR_some, effD_some, Int.reduceEq, Int.reduceNe, Int.reduceLT, Int.reduceLE, Int.reduceGT, Int.reduceGE, Nat.reduceEqDiff, Nat.reduceAdd, Nat.reduceMul, Nat.reduceLeDiff, Nat.reduceSub, Nat.reduceLT, Nat.reduceBEq, ↓reduceIte, reduceCtorEq, ← decide_not, okind, vpre, vpure, intBin, intPre, strBin, strPre, popTo, argSlots, fldV, fldAV, subCells, idxVV, idxAAV, idxSV, sliceV, sliceSV, boundV, szIs, storeOp, storeS, setRowV, eff, extV, buildV, splice, eqSV, fitsL, eqCells, eqCell, minmaxV, capV, binBV, nilCheckV, bytesV, V.cells, V.stays, Orc.nothing, p0])
          refine Runs.call rfl rfl rfl (rtxt_c rd (by omega) hs40) ?_
          have hcl := textR_len hs40
          have hst : nodesT (g + 1) l' false = (Shp.text (textR l').1 :: (nodesT g (textR l').2.1 (textR l').2.2).1, (nodesT g (textR l').2.1 (textR l').2.2).2) := by
            show nodesR (g + 1) l' = _
            rw [nodesR, if_neg (by simp [hs91]), if_pos hs40]; rfl
          generalize textR l' = c at *
          rintro r1 σd ⟨rfl, hσd⟩
          have hσd : σd = upd σc id (rdr c.2.1 c.2.2) := hσd
          have hstep : nodesT (g + 1) l' false = (Shp.text c.1 :: (nodesT g c.2.1 c.2.2).1, (nodesT g c.2.1 c.2.2).2) := by
            exact hst
          have hle : c.2.1.length + 1 ≤ l'.length := by
            omega
          rw [hstep] at hT
          have hxc := encS_cells (Shp.text c.1)
          have hxs := encS_stays (Shp.text c.1)
          have hout := outOff hσ inv.out hσd
          have Od : Off id σ σd := by rw [hσd]; exact inv.off.upd
          have hd : σd id = some (rdr c.2.1 c.2.2) := by rw [hσd]; exact upd_same
          generalize hX : Shp.text c.1 = X at *
          generalize hvx : encS X = vx at *
          (refine Runs.of_step Orc.nothing 300 ?_; simp -implicitDefEqProofs only [BB, Int.reduceEq, Int.reduceNe, Int.reduceLT, Int.reduceLE, Int.reduceGT, Int.reduceGE, Nat.reduceEqDiff, Nat.reduceAdd, Nat.reduceMul, Nat.reduceLeDiff, Nat.reduceSub, Nat.reduceLT, Nat.reduceBEq, ↓reduceIte, reduceCtorEq, ← decide_not, okind, vpre, vpure, intBin, intPre, strBin, strPre, popTo, argSlots, fldV, fldAV, subCells, idxVV, idxAAV, idxSV, sliceV, sliceSV, boundV, szIs, storeOp, storeS, setRowV, eff, extV, buildV, splice, eqSV, fitsL, eqCells, eqCell, minmaxV, capV, binBV, nilCheckV, bytesV, Orc.nothing, V.cells_agg, V.cells_int, V.cells_nils, V.cells_own, V.cells_sl, V.cells_str, V.cells_bool, V.cells_fn, V.cells_ptr, V.cells_rp, V.stays_agg, V.stays_int, V.stays_nils, V.stays_own, V.stays_sl, V.stays_str, V.stays_bool, V.stays_fn, V.stays_ptr, V.stays_rp, hxc, hxs])
          refine effR_new fun id21 σ21 s21 a21 f21 => ?_
          obtain ⟨idA, hda, hdA⟩ := hout.dst' s21
          have hb : (xs.length + 1) * 17 ≤ 140737488355328 := by omega
          simp -implicitDefEqProofs only [BB, Int.reduceEq, Int.reduceNe, Int.reduceLT, Int.reduceLE, Int.reduceGT, Int.reduceGE, Nat.reduceEqDiff, Nat.reduceAdd, Nat.reduceMul, Nat.reduceLeDiff, Nat.reduceSub, Nat.reduceLT, Nat.reduceBEq, ↓reduceIte, reduceCtorEq, ← decide_not, okind, vpre, vpure, intBin, intPre, strBin, strPre, popTo, argSlots, fldV, fldAV, subCells, idxVV, idxAAV, idxSV, sliceV, sliceSV, boundV, szIs, storeOp, storeS, setRowV, eff, extV, buildV, splice, eqSV, fitsL, eqCells, eqCell, minmaxV, capV, binBV, nilCheckV, bytesV, V.cells_agg, V.cells_int, V.cells_nils, V.cells_own, V.cells_sl, V.cells_str, V.cells_bool, V.cells_fn, V.cells_ptr, V.cells_rp, V.stays_agg, V.stays_int, V.stays_nils, V.stays_own, V.stays_sl, V.stays_str, V.stays_bool, V.stays_fn, V.stays_ptr, V.stays_rp, hxc, hxs, hda, srcOne a21, List.length_map, hb]
          refine effR_put fun id22 σ22 s22 a22 f22 => ?_
          simp -implicitDefEqProofs only [BB, Int.reduceEq, Int.reduceNe, Int.reduceLT, Int.reduceLE, Int.reduceGT, Int.reduceGE, Nat.reduceEqDiff, Nat.reduceAdd, Nat.reduceMul, Nat.reduceLeDiff, Nat.reduceSub, Nat.reduceLT, Nat.reduceBEq, ↓reduceIte, reduceCtorEq, ← decide_not, okind, vpre, vpure, intBin, intPre, strBin, strPre, popTo, argSlots, fldV, fldAV, subCells, idxVV, idxAAV, idxSV, sliceV, sliceSV, boundV, szIs, storeOp, storeS, setRowV, eff, extV, buildV, splice, eqSV, fitsL, eqCells, eqCell, minmaxV, capV, binBV, nilCheckV, bytesV, V.cells, V.stays, p0]
          subst hvx
          refine ⟨c.2.1.length, by omega, g, xs ++ [X], c.2.1, c.2.2, rfl, by omega, by omega, by rw [hT]; simp, ?_⟩
          exact NInv.push Od hd hσ s21 hdA s22 (by exact a22) f22 (by omega)
        | false =>
          (refine Runs.of_step Orc.nothing 300 ?_; simp -implicitDefEqProofs only [BB, effR_some, effD_some, Int.reduceEq, Int.reduceNe, Int.reduceLT, Int.reduceLE, Int.reduceGT, Int.reduceGE, Nat.reduceEqDiff, Nat.reduceAdd, Nat.reduceMul, Nat.reduceLeDiff, Nat.reduceSub, Nat.reduceLT, Nat.reduceBEq, ↓reduceIte, reduceCtorEq, ← decide_not, okind, vpre, vpure, intBin, intPre, strBin, strPre, popTo, argSlots, fldV, fldAV, subCells, idxVV, idxAAV, idxSV, sliceV, sliceSV, boundV, szIs, storeOp, storeS, setRowV, eff, extV, buildV, splice, eqSV, fitsL, eqCells, eqCell, minmaxV, capV, binBV, nilCheckV, bytesV, V.cells, V.stays, Orc.nothing, p0, rd])
          refine Runs.pcall rfl rfl rfl (rsign_c l' 123 _) ?_
          cases hs123 : signB 123 l' with
          | true =>
            obtain ⟨g, rfl, hlt, htk⟩ := step 123 hs123
            (refine Runs.of_step Orc.nothing 300 ?_; simp -implicitDefEqProofs only [BB, effR_some, effD_some, Int.reduceEq, Int.reduceNe, Int.reduceLT, Int.reduceLE, Int.reduceGT, Int.reduceGE, Nat.reduceEqDiff, Nat.reduceAdd, Nat.reduceMul, Nat.reduceLeDiff, Nat.reduceSub, Nat.reduceLT, Nat.reduceBEq, ↓reduceIte, reduceCtorEq, ← decide_not, okind, vpre, vpure, intBin, intPre, strBin, strPre, popTo, argSlots, fldV, fldAV, subCells, idxVV, idxAAV, idxSV, sliceV, sliceSV, boundV, szIs, storeOp, storeS, setRowV, eff, extV, buildV, splice, eqSV, fitsL, eqCells, eqCell, minmaxV, capV, binBV, nilCheckV, bytesV, V.cells, V.stays, Orc.nothing, p0])
            refine Runs.call rfl rfl rfl (take_c 123 rd) ?_
            rw [htk]
            rintro r0 σb ⟨rfl, hσb⟩
            have hσb : σb = upd σc id (rdr l'.tail false) := hσb
            have hb0 : σb id = some (rdr l'.tail false) := by rw [hσb]; exact upd_same
            (refine Runs.of_step Orc.nothing 300 ?_; simp -implicitDefEqProofs only [BB, effR_some, effD_some, Int.reduceEq, Int.reduceNe, Int.reduceLT, Int.reduceLE, Int.reduceGT, Int.reduceGE, Nat.reduceEqDiff, Nat.reduceAdd, Nat.reduceMul, Nat.reduceLeDiff, Nat.reduceSub, Nat.reduceLT, Nat.reduceBEq, ↓reduceIte, reduceCtorEq, ← decide_not, okind, vpre, vpure, intBin, intPre, strBin, strPre, popTo, argSlots, fldV, fldAV, subCells, idxVV, idxAAV, idxSV, sliceV, sliceSV, boundV, szIs, storeOp, storeS, setRowV, eff, extV, buildV, splice, eqSV, fitsL, eqCells, eqCell, minmaxV, capV, binBV, nilCheckV, bytesV, V.cells, V.stays, Orc.nothing, p0])
            refine Runs.call rfl rfl rfl (box_c 125 hb0) ?_
            have hcl := boxR_len 125 l'.tail false
            have hst : nodesT (g + 1) l' false = (Shp.box (boxR 125 l'.tail false).1 (boxR 125 l'.tail false).2.1 :: (nodesT g (boxR 125 l'.tail false).2.2.1 (boxR 125 l'.tail false).2.2.2).1, (nodesT g (boxR 125 l'.tail false).2.2.1 (boxR 125 l'.tail false).2.2.2).2) := by
              show nodesR (g + 1) l' = _
              rw [nodesR, if_neg (by simp [hs91]), if_neg (by simp [hs40]), if_pos hs123]; rfl
            generalize boxR 125 l'.tail false = c at *
            rintro r1 σd ⟨rfl, hσd⟩
            have hσd : σd = upd σc id (rdr c.2.2.1 c.2.2.2) := by rw [show σd = upd σb id (rdr c.2.2.1 c.2.2.2) from hσd, hσb, upd_upd]
            have hstep : nodesT (g + 1) l' false = (Shp.box c.1 c.2.1 :: (nodesT g c.2.2.1 c.2.2.2).1, (nodesT g c.2.2.1 c.2.2.2).2) := by
              exact hst
            have hle : c.2.2.1.length + 1 ≤ l'.length := by
              omega
            rw [hstep] at hT
            have hxc := encS_cells (Shp.box c.1 c.2.1)
            have hxs := encS_stays (Shp.box c.1 c.2.1)
            have hout := outOff hσ inv.out hσd
            have Od : Off id σ σd := by rw [hσd]; exact inv.off.upd
            have hd : σd id = some (rdr c.2.2.1 c.2.2.2) := by rw [hσd]; exact upd_same
            generalize hX : Shp.box c.1 c.2.1 = X at *
            generalize hvx : encS X = vx at *
            (refine Runs.of_step Orc.nothing 300 ?_; simp -implicitDefEqProofs only [BB, Int.reduceEq, Int.reduceNe, Int.reduceLT, Int.reduceLE, Int.reduceGT, Int.reduceGE, Nat.reduceEqDiff, Nat.reduceAdd, Nat.reduceMul, Nat.reduceLeDiff, Nat.reduceSub, Nat.reduceLT, Nat.reduceBEq, ↓reduceIte, reduceCtorEq, ← decide_not, okind, vpre, vpure, intBin, intPre, strBin, strPre, popTo, argSlots, fldV, fldAV, subCells, idxVV, idxAAV, idxSV, sliceV, sliceSV, boundV, szIs, storeOp, storeS, setRowV, eff, extV, buildV, splice, eqSV, fitsL, eqCells, eqCell, minmaxV, capV, binBV, nilCheckV, bytesV, Orc.nothing, V.cells_agg, V.cells_int, V.cells_nils, V.cells_own, V.cells_sl, V.cells_str, V.cells_bool, V.cells_fn, V.cells_ptr, V.cells_rp, V.stays_agg, V.stays_int, V.stays_nils, V.stays_own, V.stays_sl, V.stays_str, V.stays_bool, V.stays_fn, V.stays_ptr, V.stays_rp, hxc, hxs])
            refine effR_new fun id21 σ21 s21 a21 f21 => ?_
            obtain ⟨idA, hda, hdA⟩ := hout.dst' s21
            have hb : (xs.length + 1) * 17 ≤ 140737488355328 := by omega
            simp -implicitDefEqProofs only [BB, Int.reduceEq, Int.reduceNe, Int.reduceLT, Int.reduceLE, Int.reduceGT, Int.reduceGE, Nat.reduceEqDiff, Nat.reduceAdd, Nat.reduceMul, Nat.reduceLeDiff, Nat.reduceSub, Nat.reduceLT, Nat.reduceBEq, ↓reduceIte, reduceCtorEq, ← decide_not, okind, vpre, vpure, intBin, intPre, strBin, strPre, popTo, argSlots, fldV, fldAV, subCells, idxVV, idxAAV, idxSV, sliceV, sliceSV, boundV, szIs, storeOp, storeS, setRowV, eff, extV, buildV, splice, eqSV, fitsL, eqCells, eqCell, minmaxV, capV, binBV, nilCheckV, bytesV, V.cells_agg, V.cells_int, V.cells_nils, V.cells_own, V.cells_sl, V.cells_str, V.cells_bool, V.cells_fn, V.cells_ptr, V.cells_rp, V.stays_agg, V.stays_int, V.stays_nils, V.stays_own, V.stays_sl, V.stays_str, V.stays_bool, V.stays_fn, V.stays_ptr, V.stays_rp, hxc, hxs, hda, srcOne a21, List.length_map, hb]
            refine effR_put fun id22 σ22 s22 a22 f22 => ?_
            simp -implicitDefEqProofs only [BB, Int.reduceEq, Int.reduceNe, Int.reduceLT, Int.reduceLE, Int.reduceGT, Int.reduceGE, Nat.reduceEqDiff, Nat.reduceAdd, Nat.reduceMul, Nat.reduceLeDiff, Nat.reduceSub, Nat.reduceLT, Nat.reduceBEq, ↓reduceIte, reduceCtorEq, ← decide_not, okind, vpre, vpure, intBin, intPre, strBin, strPre, popTo, argSlots, fldV, fldAV, subCells, idxVV, idxAAV, idxSV, sliceV, sliceSV, boundV, szIs, storeOp, storeS, setRowV, eff, extV, buildV, splice, eqSV, fitsL, eqCells, eqCell, minmaxV, capV, binBV, nilCheckV, bytesV, V.cells, V.stays, p0]
            subst hvx
            refine ⟨c.2.2.1.length, by omega, g, xs ++ [X], c.2.2.1, c.2.2.2, rfl, by omega, by omega, by rw [hT]; simp, ?_⟩
            exact NInv.push Od hd hσ s21 hdA s22 (by subst hX; simpa [encS] using a22) f22 (by omega)
          | false =>
            (refine Runs.of_step Orc.nothing 300 ?_; simp -implicitDefEqProofs only [BB, effR_some, effD_some, Int.reduceEq, Int.reduceNe, Int.reduceLT, Int.reduceLE, Int.reduceGT, Int.reduceGE, Nat.reduceEqDiff, Nat.reduceAdd, Nat.reduceMul, Nat.reduceLeDiff, Nat.reduceSub, Nat.reduceLT, Nat.reduceBEq, ↓reduceIte, reduceCtorEq, ← decide_not, okind, vpre, vpure, intBin, intPre, strBin, strPre, popTo, argSlots, fldV, fldAV, subCells, idxVV, idxAAV, idxSV, sliceV, sliceSV, boundV, szIs, storeOp, storeS, setRowV, eff, extV, buildV, splice, eqSV, fitsL, eqCells, eqCell, minmaxV, capV, binBV, nilCheckV, bytesV, V.cells, V.stays, Orc.nothing, p0, rd])
            refine Runs.pcall rfl rfl rfl (rsign_c l' 60 _) ?_
            cases hs60 : signB 60 l' with
            | true =>
              obtain ⟨g, rfl, hlt, htk⟩ := step 60 hs60
              (refine Runs.of_step Orc.nothing 300 ?_; simp -implicitDefEqProofs only [BB, effR_some, effD_some, Int.reduceEq, Int.reduceNe, Int.reduceLT, Int.reduceLE, Int.reduceGT, Int.reduceGE, Nat.reduceEqDiff, Nat.reduceAdd, Nat.reduceMul, Nat.reduceLeDiff, Nat.reduceSub, Nat.reduceLT, Nat.reduceBEq, ↓reduceIte, reduceCtorEq, ← decide_not, okind, vpre, vpure, intBin, intPre, strBin, strPre, popTo, argSlots, fldV, fldAV, subCells, idxVV, idxAAV, idxSV, sliceV, sliceSV, boundV, szIs, storeOp, storeS, setRowV, eff, extV, buildV, splice, eqSV, fitsL, eqCells, eqCell, minmaxV, capV, binBV, nilCheckV, bytesV, V.cells, V.stays, Orc.nothing, p0])
              refine Runs.call rfl rfl rfl (float_c rd) ?_
              have hcl := floatR_len hs60
              have hst : nodesT (g + 1) l' false = ((floatR l' false).1 :: (nodesT g (floatR l' false).2.1 (floatR l' false).2.2).1, (nodesT g (floatR l' false).2.1 (floatR l' false).2.2).2) := by
                show nodesR (g + 1) l' = _
                rw [nodesR, if_neg (by simp [hs91]), if_neg (by simp [hs40]), if_neg (by simp [hs123]), if_pos hs60]; rfl
              generalize floatR l' false = c at *
              rintro r1 σd ⟨rfl, hσd⟩
              have hσd : σd = upd σc id (rdr c.2.1 c.2.2) := hσd
              have hstep : nodesT (g + 1) l' false = (c.1 :: (nodesT g c.2.1 c.2.2).1, (nodesT g c.2.1 c.2.2).2) := by
                exact hst
              have hle : c.2.1.length + 1 ≤ l'.length := by
                omega
              rw [hstep] at hT
              have hxc := encS_cells (c.1)
              have hxs := encS_stays (c.1)
              have hout := outOff hσ inv.out hσd
              have Od : Off id σ σd := by rw [hσd]; exact inv.off.upd
              have hd : σd id = some (rdr c.2.1 c.2.2) := by rw [hσd]; exact upd_same
              generalize hX : c.1 = X at *
              generalize hvx : encS X = vx at *
              (refine Runs.of_step Orc.nothing 300 ?_; simp -implicitDefEqProofs only [BB, Int.reduceEq, Int.reduceNe, Int.reduceLT, Int.reduceLE, Int.reduceGT, Int.reduceGE, Nat.reduceEqDiff, Nat.reduceAdd, Nat.reduceMul, Nat.reduceLeDiff, Nat.reduceSub, Nat.reduceLT, Nat.reduceBEq, ↓reduceIte, reduceCtorEq, ← decide_not, okind, vpre, vpure, intBin, intPre, strBin, strPre, popTo, argSlots, fldV, fldAV, subCells, idxVV, idxAAV, idxSV, sliceV, sliceSV, boundV, szIs, storeOp, storeS, setRowV, eff, extV, buildV, splice, eqSV, fitsL, eqCells, eqCell, minmaxV, capV, binBV, nilCheckV, bytesV, Orc.nothing, V.cells_agg, V.cells_int, V.cells_nils, V.cells_own, V.cells_sl, V.cells_str, V.cells_bool, V.cells_fn, V.cells_ptr, V.cells_rp, V.stays_agg, V.stays_int, V.stays_nils, V.stays_own, V.stays_sl, V.stays_str, V.stays_bool, V.stays_fn, V.stays_ptr, V.stays_rp, hxc, hxs])
              refine effR_new fun id21 σ21 s21 a21 f21 => ?_
              obtain ⟨idA, hda, hdA⟩ := hout.dst' s21
              have hb : (xs.length + 1) * 17 ≤ 140737488355328 := by omega
              simp -implicitDefEqProofs only [BB, Int.reduceEq, Int.reduceNe, Int.reduceLT, Int.reduceLE, Int.reduceGT, Int.reduceGE, Nat.reduceEqDiff, Nat.reduceAdd, Nat.reduceMul, Nat.reduceLeDiff, Nat.reduceSub, Nat.reduceLT, Nat.reduceBEq, ↓reduceIte, reduceCtorEq, ← decide_not, okind, vpre, vpure, intBin, intPre, strBin, strPre, popTo, argSlots, fldV, fldAV, subCells, idxVV, idxAAV, idxSV, sliceV, sliceSV, boundV, szIs, storeOp, storeS, setRowV, eff, extV, buildV, splice, eqSV, fitsL, eqCells, eqCell, minmaxV, capV, binBV, nilCheckV, bytesV, V.cells_agg, V.cells_int, V.cells_nils, V.cells_own, V.cells_sl, V.cells_str, V.cells_bool, V.cells_fn, V.cells_ptr, V.cells_rp, V.stays_agg, V.stays_int, V.stays_nils, V.stays_own, V.stays_sl, V.stays_str, V.stays_bool, V.stays_fn, V.stays_ptr, V.stays_rp, hxc, hxs, hda, srcOne a21, List.length_map, hb]
              refine effR_put fun id22 σ22 s22 a22 f22 => ?_
              simp -implicitDefEqProofs only [BB, Int.reduceEq, Int.reduceNe, Int.reduceLT, Int.reduceLE, Int.reduceGT, Int.reduceGE, Nat.reduceEqDiff, Nat.reduceAdd, Nat.reduceMul, Nat.reduceLeDiff, Nat.reduceSub, Nat.reduceLT, Nat.reduceBEq, ↓reduceIte, reduceCtorEq, ← decide_not, okind, vpre, vpure, intBin, intPre, strBin, strPre, popTo, argSlots, fldV, fldAV, subCells, idxVV, idxAAV, idxSV, sliceV, sliceSV, boundV, szIs, storeOp, storeS, setRowV, eff, extV, buildV, splice, eqSV, fitsL, eqCells, eqCell, minmaxV, capV, binBV, nilCheckV, bytesV, V.cells, V.stays, p0]
              subst hvx
              refine ⟨c.2.1.length, by omega, g, xs ++ [X], c.2.1, c.2.2, rfl, by omega, by omega, by rw [hT]; simp, ?_⟩
              exact NInv.push Od hd hσ s21 hdA s22 (by exact a22) f22 (by omega)
            | false =>
              (refine Runs.of_step Orc.nothing 300 ?_; simp -implicitDefEqProofs only [BB, effR_some, effD_some, Int.reduceEq, Int.reduceNe, Int.reduceLT, Int.reduceLE, Int.reduceGT, Int.reduceGE, Nat.reduceEqDiff, Nat.reduceAdd, Nat.reduceMul, Nat.reduceLeDiff, Nat.reduceSub, Nat.reduceLT, Nat.reduceBEq, ↓reduceIte, reduceCtorEq, ← decide_not, okind, vpre, vpure, intBin, intPre, strBin, strPre, popTo, argSlots, fldV, fldAV, subCells, idxVV, idxAAV, idxSV, sliceV, sliceSV, boundV, szIs, storeOp, storeS, setRowV, eff, extV, buildV, splice, eqSV, fitsL, eqCells, eqCell, minmaxV, capV, binBV, nilCheckV, bytesV, V.cells, V.stays, Orc.nothing, p0])
              exact fin (by
                cases fu with
                | zero => rfl
                | succ g => show nodesR (g + 1) l' = _; rw [nodesR, if_neg (by simp [hs91]), if_neg (by simp [hs40]), if_neg (by simp [hs123]), if_neg (by simp [hs60])])
end Go.Vc
namespace Go.Vc
open Go.Proofs
/-- twelve numbers as a style -/
def styL : List Int → Sty
  | [a, b, c, d, e, f, g, h, i, j, k, l] => ⟨a, b, c, d, e, f, g, h, i, j, k, l⟩
  | _ => Sty.zero
/-- a shape's node, without those within -/
def ndS : Shp → Nd
  | .box w h => ⟨3, 1, Sty.zero, 0, 0, [], 0, w, h⟩
  | .block s _ => ⟨1, 1, styL s, 0, 0, [], 0, 0, 0⟩
  | .text ns => ⟨2, 1, Sty.zero, ns.getD 0 0, ns.getD 1 0, ns.drop 2, 0, 0, 0⟩
  | .float w h d => ⟨4, 1, Sty.zero, 0, 0, [], d, w, h⟩
theorem wk_nd {σ σ' : Store} (h : SubStore σ' σ) (k z a b c d w v : Int) (s : Sty) : Wk σ σ' (.agg [vI k, vI z, vI s.top, vI s.bottom, vI s.padTop, vI s.padBottom, vI s.inset, vI s.orphans, vI s.widows, vI s.head, vI s.before, vI s.after, vI s.inside, vI s.clear, vI a, vI b, .nils, vI d, vI w, vI v])
    (encN ⟨k, z, s, a, b, [], d, w, v⟩) := by
  simp only [encN, Nd.cells]
  refine Wk.agg ?_
  simp only [WkL]
  exact ⟨Wk.refl h _, Wk.refl h _, Wk.refl h _, Wk.refl h _, Wk.refl h _, Wk.refl h _, Wk.refl h _, Wk.refl h _, Wk.refl h _, Wk.refl h _, Wk.refl h _, Wk.refl h _, Wk.refl h _, Wk.refl h _, Wk.refl h _, Wk.refl h _, Wk.nils 1, Wk.refl h _, Wk.refl h _, Wk.refl h _, trivial⟩
theorem retN {σ σ1 σ2 : Store} {id2 : Nat} {o : Ob} {v v' : V} (s1 : SubStore σ σ1) (s2 : SubStore σ1 σ2) (f2 : σ1 id2 = none) (h : ∀ τ, SubStore σ τ → Wk τ σ v v') : RetV v (upd σ2 id2 o) fun r σ' => r = v' ∧ σ' = σ :=
  have hs : SubStore σ (upd σ2 id2 o) := (s1.trans s2).updK (s1.none f2)
  ⟨_, σ, hs, h _ hs, rfl, rfl⟩
theorem mbox_c (w h : Int) : PFun Tryd.prog 159 [.agg [vI w, vI h]] (encN (ndS (.box w h))) := fun σ => by
  refine Contract.of_runs Tryd.func159 e159 k159 (by simp [c159]) ?_
  (refine Runs.of_step Orc.nothing 300 ?_; simp -implicitDefEqProofs only [BB, Int.reduceEq, Int.reduceNe, Int.reduceLT, Int.reduceLE, Int.reduceGT, Int.reduceGE, Nat.reduceEqDiff, Nat.reduceAdd, Nat.reduceMul, Nat.reduceLeDiff, Nat.reduceSub, Nat.reduceLT, Nat.reduceBEq, ↓reduceIte, reduceCtorEq, ← decide_not, okind, vpre, vpure, intBin, intPre, strBin, strPre, popTo, argSlots, fldV, fldAV, subCells, idxVV, idxAAV, idxSV, sliceV, sliceSV, boundV, szIs, storeOp, storeS, setRowV, eff, extV, buildV, splice, eqSV, fitsL, eqCells, eqCell, minmaxV, capV, binBV, nilCheckV, bytesV, V.cells, V.stays, Orc.nothing, c159])
  refine effR_new fun id1 σ1 s1 a1 f1 => ?_
  simp -implicitDefEqProofs only [BB, Int.reduceEq, Int.reduceNe, Int.reduceLT, Int.reduceLE, Int.reduceGT, Int.reduceGE, Nat.reduceEqDiff, Nat.reduceAdd, Nat.reduceMul, Nat.reduceLeDiff, Nat.reduceSub, Nat.reduceLT, Nat.reduceBEq, ↓reduceIte, reduceCtorEq, ← decide_not, okind, vpre, vpure, intBin, intPre, strBin, strPre, popTo, argSlots, fldV, fldAV, subCells, idxVV, idxAAV, idxSV, sliceV, sliceSV, boundV, szIs, storeOp, storeS, setRowV, eff, extV, buildV, splice, eqSV, fitsL, eqCells, eqCell, minmaxV, capV, binBV, nilCheckV, bytesV, V.cells, V.stays]
  refine effR_new fun id2 σ2 s2 a2 f2 => ?_
  have b1 := s2 _ _ a1
  simp -implicitDefEqProofs only [BB, Int.reduceEq, Int.reduceNe, Int.reduceLT, Int.reduceLE, Int.reduceGT, Int.reduceGE, Nat.reduceEqDiff, Nat.reduceAdd, Nat.reduceMul, Nat.reduceLeDiff, Nat.reduceSub, Nat.reduceLT, Nat.reduceBEq, ↓reduceIte, reduceCtorEq, ← decide_not, okind, vpre, vpure, intBin, intPre, strBin, strPre, popTo, argSlots, fldV, fldAV, subCells, idxVV, idxAAV, idxSV, sliceV, sliceSV, boundV, szIs, storeOp, storeS, setRowV, eff, extV, buildV, splice, eqSV, fitsL, eqCells, eqCell, minmaxV, capV, binBV, nilCheckV, bytesV, V.cells, V.stays, b1, a2]
  exact retN s1 s2 f2 fun τ hs => wk_nd hs 3 1 0 0 0 0 w h Sty.zero
theorem mfloat_c (w h d : Int) : PFun Tryd.prog 162 [.agg [vI w, vI h, vI d]] (encN (ndS (.float w h d))) := fun σ => by
  refine Contract.of_runs Tryd.func162 e162 k162 (by simp [c162]) ?_
  (refine Runs.of_step Orc.nothing 300 ?_; simp -implicitDefEqProofs only [BB, Int.reduceEq, Int.reduceNe, Int.reduceLT, Int.reduceLE, Int.reduceGT, Int.reduceGE, Nat.reduceEqDiff, Nat.reduceAdd, Nat.reduceMul, Nat.reduceLeDiff, Nat.reduceSub, Nat.reduceLT, Nat.reduceBEq, ↓reduceIte, reduceCtorEq, ← decide_not, okind, vpre, vpure, intBin, intPre, strBin, strPre, popTo, argSlots, fldV, fldAV, subCells, idxVV, idxAAV, idxSV, sliceV, sliceSV, boundV, szIs, storeOp, storeS, setRowV, eff, extV, buildV, splice, eqSV, fitsL, eqCells, eqCell, minmaxV, capV, binBV, nilCheckV, bytesV, V.cells, V.stays, Orc.nothing, c162])
  refine effR_new fun id1 σ1 s1 a1 f1 => ?_
  simp -implicitDefEqProofs only [BB, Int.reduceEq, Int.reduceNe, Int.reduceLT, Int.reduceLE, Int.reduceGT, Int.reduceGE, Nat.reduceEqDiff, Nat.reduceAdd, Nat.reduceMul, Nat.reduceLeDiff, Nat.reduceSub, Nat.reduceLT, Nat.reduceBEq, ↓reduceIte, reduceCtorEq, ← decide_not, okind, vpre, vpure, intBin, intPre, strBin, strPre, popTo, argSlots, fldV, fldAV, subCells, idxVV, idxAAV, idxSV, sliceV, sliceSV, boundV, szIs, storeOp, storeS, setRowV, eff, extV, buildV, splice, eqSV, fitsL, eqCells, eqCell, minmaxV, capV, binBV, nilCheckV, bytesV, V.cells, V.stays]
  refine effR_new fun id2 σ2 s2 a2 f2 => ?_
  have b1 := s2 _ _ a1
  simp -implicitDefEqProofs only [BB, Int.reduceEq, Int.reduceNe, Int.reduceLT, Int.reduceLE, Int.reduceGT, Int.reduceGE, Nat.reduceEqDiff, Nat.reduceAdd, Nat.reduceMul, Nat.reduceLeDiff, Nat.reduceSub, Nat.reduceLT, Nat.reduceBEq, ↓reduceIte, reduceCtorEq, ← decide_not, okind, vpre, vpure, intBin, intPre, strBin, strPre, popTo, argSlots, fldV, fldAV, subCells, idxVV, idxAAV, idxSV, sliceV, sliceSV, boundV, szIs, storeOp, storeS, setRowV, eff, extV, buildV, splice, eqSV, fitsL, eqCells, eqCell, minmaxV, capV, binBV, nilCheckV, bytesV, V.cells, V.stays, b1, a2]
  exact retN s1 s2 f2 fun τ hs => wk_nd hs 4 1 0 0 0 d w h Sty.zero
theorem mblock_c (s : List Int) (hs : s.length = 12) (x : V) (hx : x.cells.length = 1) (hxs : x.stays = true) : PFun Tryd.prog 160 [.agg (s.map vI ++ [x])] (encN (ndS (.block s []))) := fun σ => by
  refine Contract.of_runs Tryd.func160 e160 k160 (by simp [c160]) ?_
  match s, hs with
  | [a, b, c, d, e, f, g, h, i, j, k, l], _ =>
    simp only [List.map_cons, List.map_nil, List.cons_append, List.nil_append]
    have hst : (V.agg [vI a, vI b, vI c, vI d, vI e, vI f, vI g, vI h, vI i, vI j, vI k, vI l, x]).stays = true := rfl
    (refine Runs.of_step Orc.nothing 300 ?_; simp -implicitDefEqProofs only [BB, Int.reduceEq, Int.reduceNe, Int.reduceLT, Int.reduceLE, Int.reduceGT, Int.reduceGE, Nat.reduceEqDiff, Nat.reduceAdd, Nat.reduceMul, Nat.reduceLeDiff, Nat.reduceSub, Nat.reduceLT, Nat.reduceBEq, ↓reduceIte, reduceCtorEq, ← decide_not, okind, vpre, vpure, intBin, intPre, strBin, strPre, popTo, argSlots, fldV, fldAV, subCells, idxVV, idxAAV, idxSV, sliceV, sliceSV, boundV, szIs, storeOp, storeS, setRowV, eff, extV, buildV, splice, eqSV, fitsL, eqCells, eqCell, minmaxV, capV, binBV, nilCheckV, bytesV, V.cells, V.stays, Orc.nothing, c160, hxs])
    refine effR_new fun id1 σ1 s1 a1 f1 => ?_
    simp -implicitDefEqProofs only [BB, Int.reduceEq, Int.reduceNe, Int.reduceLT, Int.reduceLE, Int.reduceGT, Int.reduceGE, Nat.reduceEqDiff, Nat.reduceAdd, Nat.reduceMul, Nat.reduceLeDiff, Nat.reduceSub, Nat.reduceLT, Nat.reduceBEq, ↓reduceIte, reduceCtorEq, ← decide_not, okind, vpre, vpure, intBin, intPre, strBin, strPre, popTo, argSlots, fldV, fldAV, subCells, idxVV, idxAAV, idxSV, sliceV, sliceSV, boundV, szIs, storeOp, storeS, setRowV, eff, extV, buildV, splice, eqSV, fitsL, eqCells, eqCell, minmaxV, capV, binBV, nilCheckV, bytesV, V.cells, V.stays]
    refine effR_new fun id2 σ2 s2 a2 f2 => ?_
    have b1 := s2 _ _ a1
    simp -implicitDefEqProofs only [BB, Int.reduceEq, Int.reduceNe, Int.reduceLT, Int.reduceLE, Int.reduceGT, Int.reduceGE, Nat.reduceEqDiff, Nat.reduceAdd, Nat.reduceMul, Nat.reduceLeDiff, Nat.reduceSub, Nat.reduceLT, Nat.reduceBEq, ↓reduceIte, reduceCtorEq, ← decide_not, okind, vpre, vpure, intBin, intPre, strBin, strPre, popTo, argSlots, fldV, fldAV, subCells, idxVV, idxAAV, idxSV, sliceV, sliceSV, boundV, szIs, storeOp, storeS, setRowV, eff, extV, buildV, splice, eqSV, fitsL, eqCells, eqCell, minmaxV, capV, binBV, nilCheckV, bytesV, V.cells, V.stays, b1, a2]
    exact retN s1 s2 f2 fun τ hs => wk_nd hs 1 1 0 0 0 0 0 0 ⟨a, b, c, d, e, f, g, h, i, j, k, l⟩
theorem slice2 (σ : Store) (x y : V) (l : List V) : sliceV σ 1 (.sl 1 (x :: y :: l)) (some (.int .i64 2)) none none = some (.sl 1 l) := by
  simp only [sliceV, boundV, List.length_cons]
  rw [if_pos ⟨by omega, by omega, by omega, by omega, trivial⟩]
  simp
  exact List.take_of_length_le (by omega)
theorem at0 (σ : Store) (x y : V) (l : List V) : idxAV σ 1 (.sl 1 (x :: y :: l)) (.int .i64 0) = some (.rp x) := by simp [idxAV]
theorem at1 (σ : Store) (x y : V) (l : List V) : idxAV σ 1 (.sl 1 (x :: y :: l)) (.int .i64 1) = some (.rp y) := by simp [idxAV]
theorem mtext_c (a b : Int) (r : List Int) : PFun Tryd.prog 161 [.agg [.sl 1 ((a :: b :: r).map vI)]] (encN (ndS (.text (a :: b :: r)))) := fun σ => by
  refine Contract.of_runs Tryd.func161 e161 k161 (by simp [c161]) ?_
  simp only [List.map_cons]
  (refine Runs.of_step Orc.nothing 300 ?_; simp -implicitDefEqProofs only [BB, Int.reduceEq, Int.reduceNe, Int.reduceLT, Int.reduceLE, Int.reduceGT, Int.reduceGE, Nat.reduceEqDiff, Nat.reduceAdd, Nat.reduceMul, Nat.reduceLeDiff, Nat.reduceSub, Nat.reduceLT, Nat.reduceBEq, ↓reduceIte, reduceCtorEq, ← decide_not, okind, vpre, vpure, intBin, intPre, strBin, strPre, popTo, argSlots, fldV, fldAV, subCells, idxVV, idxAAV, idxSV, sliceV, sliceSV, boundV, szIs, storeOp, storeS, setRowV, eff, extV, buildV, splice, eqSV, fitsL, eqCells, eqCell, minmaxV, capV, binBV, nilCheckV, bytesV, V.cells, V.stays, Orc.nothing, c161])
  refine effR_new fun id1 σ1 s1 a1 f1 => ?_
  simp -implicitDefEqProofs only [BB, Int.reduceEq, Int.reduceNe, Int.reduceLT, Int.reduceLE, Int.reduceGT, Int.reduceGE, Nat.reduceEqDiff, Nat.reduceAdd, Nat.reduceMul, Nat.reduceLeDiff, Nat.reduceSub, Nat.reduceLT, Nat.reduceBEq, ↓reduceIte, reduceCtorEq, ← decide_not, okind, vpre, vpure, intBin, intPre, strBin, strPre, popTo, argSlots, fldV, fldAV, subCells, idxVV, idxAAV, idxSV, sliceV, sliceSV, boundV, szIs, storeOp, storeS, setRowV, eff, extV, buildV, splice, eqSV, fitsL, eqCells, eqCell, minmaxV, capV, binBV, nilCheckV, bytesV, V.cells, V.stays]
  refine effR_new fun id2 σ2 s2 a2 f2 => ?_
  have b1 := s2 _ _ a1
  simp -implicitDefEqProofs only [BB, Int.reduceEq, Int.reduceNe, Int.reduceLT, Int.reduceLE, Int.reduceGT, Int.reduceGE, Nat.reduceEqDiff, Nat.reduceAdd, Nat.reduceMul, Nat.reduceLeDiff, Nat.reduceSub, Nat.reduceLT, Nat.reduceBEq, ↓reduceIte, reduceCtorEq, ← decide_not, okind, vpre, vpure, intBin, intPre, strBin, strPre, popTo, argSlots, fldV, fldAV, subCells, idxVV, idxAAV, idxSV, sliceSV, boundV, szIs, storeOp, storeS, setRowV, eff, extV, buildV, splice, eqSV, fitsL, eqCells, eqCell, minmaxV, capV, binBV, nilCheckV, bytesV, V.cells, V.stays, b1, a2, at0, at1, slice2]
  exact retN s1 s2 f2 fun τ hs => Wk.refl hs _
end Go.Vc
namespace Go.Vc
open Go.Proofs
mutual
/-- the nodes of a shape; of shapes -/
def toldS : Shp → List Nd
  | .box w h => [ndS (.box w h)]
  | .block s inner => { ndS (.block s inner) with size := 1 + ((toldL inner).length : Int) } :: toldL inner
  | .text ns => [ndS (.text ns)]
  | .float w h d => [ndS (.float w h d)]
def toldL : List Shp → List Nd
  | [] => []
  | x :: l => toldS x ++ toldL l
/-- twelve numbers in each block, two and more in each text -/
def wfS : Shp → Prop
  | .box _ _ => True
  | .block s inner => s.length = 12 ∧ wfL inner
  | .text ns => 2 ≤ ns.length
  | .float _ _ _ => True
def wfL : List Shp → Prop
  | [] => True
  | x :: l => wfS x ∧ wfL l
end
theorem toldL_append (a b : List Shp) : toldL (a ++ b) = toldL a ++ toldL b := by
  induction a with
  | nil => simp [toldL]
  | cons x l ih => simp [toldL, ih]
theorem wfL_get {l : List Shp} (h : wfL l) {i : Nat} (hi : i < l.length) : wfS l[i] := by
  induction l generalizing i with
  | nil => simp at hi
  | cons x l ih =>
    rw [wfL] at h
    cases i with
    | zero => exact h.1
    | succ i => exact ih h.2 (by simpa using hi)
theorem toldL_take {l : List Shp} {i : Nat} (hi : i < l.length) : toldL (l.take (i + 1)) = toldL (l.take i) ++ toldS l[i] := by
  rw [List.take_succ, toldL_append, List.getElem?_eq_getElem hi]
  simp [toldL]
theorem toldL_mem {l : List Shp} {i : Nat} (hi : i < l.length) : (toldL (l.take i)).length + (toldS l[i]).length ≤ (toldL l).length := by
  have h1 : toldL l = toldL (l.take (i + 1)) ++ toldL (l.drop (i + 1)) := by rw [← toldL_append, List.take_append_drop]
  rw [h1, toldL_take hi]
  simp only [List.length_append]
  omega
theorem toldL_ge (l : List Shp) : l.length ≤ (toldL l).length := by
  induction l with
  | nil => simp
  | cons x l ih =>
    rw [toldL, List.length_append, List.length_cons]
    have : 1 ≤ (toldS x).length := by cases x <;> simp [toldS]
    omega
theorem idx_shp (σ : Store) {l : List Shp} {i : Nat} (hi : i < l.length) : idxAV σ 1 (.sl 1 (l.map encS)) (.int .i64 i) = some (.rp (encS l[i])) := by
  simp [idxAV, hi]
theorem loadV_rp_shp (σ : Store) (sz : Nat) (x : Shp) : loadV σ false sz (.rp (encS x)) = some (encS x) := by cases x <;> simp [encS, loadV]
/-- the method of a shape -/
theorem meth_c (x : Shp) (h : wfS x) : ∃ t v f, encS x = .iface t v ∧ ([(105, 159), (109, 160), (140, 161), (142, 162)] : List (TypeId × FuncId)).lookup t = some f ∧ PFun Tryd.prog f [v] (encN (ndS x)) := by
  cases x with
  | box w v => exact ⟨105, .agg [vI w, vI v], 159, by rw [encS], rfl, mbox_c w v⟩
  | float w v d => exact ⟨142, .agg [vI w, vI v, vI d], 162, by rw [encS], rfl, mfloat_c w v d⟩
  | block s inner =>
    rw [wfS] at h
    exact ⟨_, _, _, by rw [encS], rfl, mblock_c s h.1 (.sl 1 (encSs inner)) rfl rfl⟩
  | text ns =>
    rw [wfS] at h
    match ns, h with
    | a :: b :: r, _ => exact ⟨_, _, _, by rw [encS], rfl, mtext_c a b r⟩
set_option maxRecDepth 100000 in
theorem told_c : ∀ (F : Nat) (xs : List Shp), (toldL xs).length ≤ F → (toldL xs).length ≤ 1000000 → xs.length ≤ 1000000 → wfL xs → PFun Tryd.prog 35 [.sl 1 (xs.map encS)] (encNs (toldL xs)) := by
  intro F
  induction F using Nat.strongRecOn with
  | _ F ih =>
    intro xs hF hl hxl hwf σ
    refine Contract.of_runs Tryd.func35 e35 k35 (by simp [c35]) ?_
    refine Runs.mix 10 ?_
    have hlen : lenV false (.sl 1 (xs.map encS)) = some (.int .i64 (xs.length : Int)) := by simp [lenV]
    (refine Runs.of_step Orc.nothing 300 ?_; simp -implicitDefEqProofs only [BB, effR_some, effD_some, Int.reduceEq, Int.reduceNe, Int.reduceLT, Int.reduceLE, Int.reduceGT, Int.reduceGE, Nat.reduceEqDiff, Nat.reduceAdd, Nat.reduceMul, Nat.reduceLeDiff, Nat.reduceSub, Nat.reduceLT, Nat.reduceBEq, ↓reduceIte, reduceCtorEq, ← decide_not, okind, vpre, vpure, intBin, intPre, strBin, strPre, popTo, argSlots, fldV, fldAV, subCells, idxVV, idxAAV, idxSV, sliceV, sliceSV, boundV, szIs, storeOp, storeS, setRowV, eff, extV, buildV, splice, eqSV, fitsL, eqCells, eqCell, minmaxV, capV, binBV, nilCheckV, bytesV, V.cells, V.stays, Orc.nothing, c35, hlen])
    refine Runs.loop (fun m st => ∃ i, i ≤ xs.length ∧ m = xs.length - i ∧ SubStore σ st.σ ∧ OutV σ st.σ 37 20 (st.s 3) ((toldL (xs.take i)).map encN) ∧ st.s 10 = .sl 1 (xs.map encS) ∧ st.s 11 = vI (xs.length : Int) ∧ st.s 12 = vI (i : Int)) xs.length
      ⟨0, by omega, by omega, SubStore.refl σ, OutV.start, rfl, rfl, rfl⟩ ?_
    rintro m ⟨S, σc⟩ ⟨i, hi, rfl, sub, out, p10, p11, p12⟩
    simp only at sub out p10 p11 p12
    refine Runs.mix 10 ?_
    by_cases hlt : i < xs.length
    · have hlt' : ((i : Int) < (xs.length : Int)) = True := by simp [hlt]
      have hix := idx_shp σc hlt
      (refine Runs.of_step Orc.nothing 300 ?_; simp -implicitDefEqProofs only [BB, effR_some, effD_some, Int.reduceEq, Int.reduceNe, Int.reduceLT, Int.reduceLE, Int.reduceGT, Int.reduceGE, Nat.reduceEqDiff, Nat.reduceAdd, Nat.reduceMul, Nat.reduceLeDiff, Nat.reduceSub, Nat.reduceLT, Nat.reduceBEq, ↓reduceIte, reduceCtorEq, ← decide_not, okind, vpre, vpure, intBin, intPre, strBin, strPre, popTo, argSlots, fldV, fldAV, subCells, idxVV, idxAAV, idxSV, sliceV, sliceSV, boundV, szIs, storeOp, storeS, setRowV, eff, extV, buildV, splice, eqSV, fitsL, eqCells, eqCell, minmaxV, capV, binBV, nilCheckV, bytesV, V.cells, V.stays, Orc.nothing, p10, p11, p12, hlt', hix, loadV_rp_shp])
      obtain ⟨t, v, f, h1, h2, h3⟩ := meth_c xs[i] (wfL_get hwf hlt)
      refine Runs.inv (t := t) (v := v) rfl rfl (by exact h1) h2 (h3 _) ?_
      rintro r1 σ1 ⟨rfl, rfl⟩
      (refine Runs.of_step Orc.nothing 300 ?_; simp -implicitDefEqProofs only [BB, Int.reduceEq, Int.reduceNe, Int.reduceLT, Int.reduceLE, Int.reduceGT, Int.reduceGE, Nat.reduceEqDiff, Nat.reduceAdd, Nat.reduceMul, Nat.reduceLeDiff, Nat.reduceSub, Nat.reduceLT, Nat.reduceBEq, ↓reduceIte, reduceCtorEq, ← decide_not, okind, vpre, vpure, intBin, intPre, strBin, strPre, popTo, argSlots, fldV, fldAV, subCells, idxVV, idxAAV, idxSV, sliceV, sliceSV, boundV, szIs, storeOp, storeS, setRowV, eff, extV, buildV, splice, eqSV, fitsL, eqCells, eqCell, minmaxV, capV, binBV, nilCheckV, bytesV, V.cells, V.stays, Orc.nothing])
      refine effR_new fun id6 σ6 s6 a6 f6 => ?_
      have z6 : σ id6 = none := sub.none f6
      have sub6 : SubStore σ σ6 := sub.trans s6
      have out6 := out.mono s6
      have htas : tasV 109 true (.agg [.int .i64 0, .int .i64 0, .int .i64 0, .int .i64 0, .int .i64 0, .int .i64 0, .int .i64 0, .int .i64 0, .int .i64 0, .int .i64 0, .int .i64 0, .int .i64 0, .nils]) (encS xs[i]) = (match xs[i] with
        | .block s inner => some (.tup [.agg (s.map vI ++ [.sl 1 (encSs inner)]), .bool true])
        | _ => some (.tup [.agg [.int .i64 0, .int .i64 0, .int .i64 0, .int .i64 0, .int .i64 0, .int .i64 0, .int .i64 0, .int .i64 0, .int .i64 0, .int .i64 0, .int .i64 0, .int .i64 0, .nils], .bool false])) := by
        cases xs[i] <;> simp [encS, tasV]
      have hwx := wfL_get hwf hlt
      have htk := toldL_take hlt
      have hmem := toldL_mem hlt
      generalize hx : xs[i] = x at *
      have plain : (∀ s inner, x ≠ .block s inner) → toldS x = [ndS x] ∧ tasV 109 true (.agg [.int .i64 0, .int .i64 0, .int .i64 0, .int .i64 0, .int .i64 0, .int .i64 0, .int .i64 0, .int .i64 0, .int .i64 0, .int .i64 0, .int .i64 0, .int .i64 0, .nils]) (encS x) = some (.tup [.agg [.int .i64 0, .int .i64 0, .int .i64 0, .int .i64 0, .int .i64 0, .int .i64 0, .int .i64 0, .int .i64 0, .int .i64 0, .int .i64 0, .int .i64 0, .int .i64 0, .nils], .bool false]) := by
        intro hb
        cases x with
        | block s inner => exact absurd rfl (hb s inner)
        | box w h => exact ⟨by rw [toldS], htas⟩
        | text ns => exact ⟨by rw [toldS], htas⟩
        | float w h d => exact ⟨by rw [toldS], htas⟩
      by_cases hb : ∃ s inner, x = .block s inner
      · obtain ⟨s, inner, rfl⟩ := hb
        simp only at htas
        rw [wfS] at hwx
        rw [encSs_eq] at htas
        generalize hxv : encS (Shp.block s inner) = xv at *
        have hbs : toldS (.block s inner) = { ndS (.block s inner) with size := 1 + ((toldL inner).length : Int) } :: toldL inner := by rw [toldS]
        rw [hbs] at htk hmem
        simp only [List.length_cons] at hmem
        have hcl : (s.map vI ++ [V.sl 1 (inner.map encS)]).length = 13 := by simp [hwx.1]
        have hs00 : setRowV (.agg [.int .i64 0, .int .i64 0, .int .i64 0, .int .i64 0, .int .i64 0, .int .i64 0, .int .i64 0, .int .i64 0, .int .i64 0, .int .i64 0, .int .i64 0, .int .i64 0, .nils]) 0 13 (.agg (s.map vI ++ [.sl 1 (inner.map encS)])) = some (.agg (s.map vI ++ [.sl 1 (inner.map encS)])) := by
          unfold setRowV
          rw [if_pos ⟨hcl, rfl⟩, if_pos ⟨rfl, rfl⟩]
        have h12 : (s.map vI ++ [V.sl 1 (inner.map encS)])[12]? = some (.sl 1 (inner.map encS)) := by
          rw [List.getElem?_append_right (by simp [hwx.1])]; simp [hwx.1]
        generalize hy : ndS (Shp.block s inner) = y at *
        have hysz : y.size = 1 := by rw [← hy]; rfl
        simp -implicitDefEqProofs only [BB, Int.reduceEq, Int.reduceNe, Int.reduceLT, Int.reduceLE, Int.reduceGT, Int.reduceGE, Nat.reduceEqDiff, Nat.reduceAdd, Nat.reduceMul, Nat.reduceLeDiff, Nat.reduceSub, Nat.reduceLT, Nat.reduceBEq, ↓reduceIte, reduceCtorEq, ← decide_not, okind, vpre, vpure, intBin, intPre, strBin, strPre, popTo, argSlots, fldV, fldAV, subCells, idxVV, idxAAV, idxSV, sliceV, sliceSV, boundV, szIs, storeOp, storeS, setRowV, eff, extV, buildV, splice, eqSV, fitsL, eqCells, eqCell, minmaxV, capV, binBV, nilCheckV, bytesV, V.cells, V.stays, a6, encN, Nd.cells, htas]
        refine effR_new fun id7 σ7 s7 a7 f7 => ?_
        have b6 : σ7 id6 = some ⟨37, 20, [.agg y.cells]⟩ := s7 _ _ upd_same
        have n67 : id6 ≠ id7 := ne_new (σ := upd σ6 id6 ⟨37, 20, [.agg y.cells]⟩) upd_same f7
        have S1 := s6.updK (o := ⟨37, 20, [.agg y.cells]⟩) f6
        simp only [Nd.cells, hysz] at b6
        simp -implicitDefEqProofs only [BB, Int.reduceEq, Int.reduceNe, Int.reduceLT, Int.reduceLE, Int.reduceGT, Int.reduceGE, Nat.reduceEqDiff, Nat.reduceAdd, Nat.reduceMul, Nat.reduceLeDiff, Nat.reduceSub, Nat.reduceLT, Nat.reduceBEq, ↓reduceIte, reduceCtorEq, ← decide_not, okind, vpre, vpure, intBin, intPre, strBin, strPre, popTo, argSlots, fldV, fldAV, subCells, idxVV, idxAAV, idxSV, sliceV, sliceSV, boundV, szIs, storeOp, storeS, eff, extV, buildV, splice, eqSV, fitsL, eqCells, eqCell, minmaxV, capV, binBV, nilCheckV, bytesV, V.cells, V.stays, a7, hs00, h12, V.cells_agg]
        have hge := toldL_ge inner
        refine Runs.pcall rfl rfl rfl (ih (toldL inner).length (by omega) inner (Nat.le_refl _) (by omega) (by omega) hwx.2 _) ?_
        have hle : lenV false (encNs (toldL inner)) = some (.int .i64 ((toldL inner).length : Int)) := by simp [encNs, lenV]
        have hin1 : inR .i64 (1 + ((toldL inner).length : Int)) := inR_i64 (by omega) (by omega)
        (refine Runs.of_step Orc.nothing 300 ?_; simp -implicitDefEqProofs only [BB, Int.reduceEq, Int.reduceNe, Int.reduceLT, Int.reduceLE, Int.reduceGT, Int.reduceGE, Nat.reduceEqDiff, Nat.reduceAdd, Nat.reduceMul, Nat.reduceLeDiff, Nat.reduceSub, Nat.reduceLT, Nat.reduceBEq, ↓reduceIte, reduceCtorEq, ← decide_not, okind, vpre, vpure, intBin, intPre, strBin, strPre, popTo, argSlots, fldV, fldAV, subCells, idxVV, idxAAV, idxSV, sliceV, sliceSV, boundV, szIs, storeOp, storeS, setRowV, eff, extV, buildV, splice, eqSV, fitsL, eqCells, eqCell, minmaxV, capV, binBV, nilCheckV, bytesV, V.cells, V.stays, Orc.nothing, b6, upd_ne n67, hle, hin1])
        refine effR_new fun id40 σ40 s40 a40 f40 => ?_
        have S2 := SubStore.trans (SubStore.updK (S1.trans (s7.updK f7)) f6) s40
        obtain ⟨idA, hda, hdA⟩ := out.dst' S2
        have hb : ((toldL (xs.take i)).length + 1) * 177 ≤ 140737488355328 := by omega
        simp -implicitDefEqProofs only [BB, Int.reduceEq, Int.reduceNe, Int.reduceLT, Int.reduceLE, Int.reduceGT, Int.reduceGE, Nat.reduceEqDiff, Nat.reduceAdd, Nat.reduceMul, Nat.reduceLeDiff, Nat.reduceSub, Nat.reduceLT, Nat.reduceBEq, ↓reduceIte, reduceCtorEq, ← decide_not, okind, vpre, vpure, intBin, intPre, strBin, strPre, popTo, argSlots, fldV, fldAV, subCells, idxVV, idxAAV, idxSV, sliceV, sliceSV, boundV, szIs, storeOp, storeS, setRowV, eff, extV, buildV, splice, eqSV, fitsL, eqCells, eqCell, minmaxV, capV, binBV, nilCheckV, bytesV, V.cells_agg, V.cells_int, V.cells_nils, V.cells_own, V.cells_sl, V.cells_str, V.cells_bool, V.cells_fn, V.cells_ptr, V.cells_rp, V.stays_agg, V.stays_int, V.stays_nils, V.stays_own, V.stays_sl, V.stays_str, V.stays_bool, V.stays_fn, V.stays_ptr, V.stays_rp, hda, srcOne a40, List.length_map, hb]
        refine effR_put fun id41 σ41 s41 a41 f41 => ?_
        have keep41 : ∀ q o, σ q = some o → σ41 q = some o := fun q o ho => keepA hdA s41 q o (by rw [ho]; simp) (S2 _ _ (sub _ _ ho))
        have out41 := OutV.new (K := σ) (n := (toldL (xs.take i)).length + 1) (by simp) a41 (sub.none (S2.none f41))
        obtain ⟨idB, hdb, hdB⟩ := out41.dst' (SubStore.refl σ41)
        have hsr : srcRows σ41 20 (encNs (toldL inner)) = some ((toldL inner).map encN) := by simp [encNs, srcRows]
        have hb2 : ((toldL (xs.take i)).length + 1 + (toldL inner).length) * 177 ≤ 140737488355328 := by omega
        simp -implicitDefEqProofs only [BB, Int.reduceEq, Int.reduceNe, Int.reduceLT, Int.reduceLE, Int.reduceGT, Int.reduceGE, Nat.reduceEqDiff, Nat.reduceAdd, Nat.reduceMul, Nat.reduceLeDiff, Nat.reduceSub, Nat.reduceLT, Nat.reduceBEq, ↓reduceIte, reduceCtorEq, ← decide_not, okind, vpre, vpure, intBin, intPre, strBin, strPre, popTo, argSlots, fldV, fldAV, subCells, idxVV, idxAAV, idxSV, sliceV, sliceSV, boundV, szIs, storeOp, storeS, setRowV, eff, extV, buildV, splice, eqSV, fitsL, eqCells, eqCell, minmaxV, capV, binBV, nilCheckV, bytesV, V.cells_agg, V.cells_int, V.cells_nils, V.cells_own, V.cells_sl, V.cells_str, V.cells_bool, V.cells_fn, V.cells_ptr, V.cells_rp, V.stays_agg, V.stays_int, V.stays_nils, V.stays_own, V.stays_sl, V.stays_str, V.stays_bool, V.stays_fn, V.stays_ptr, V.stays_rp, hdb, hsr, List.length_append, List.length_map, hb2]
        refine effR_put fun id43 σ43 s43 a43 f43 => ?_
        have hin : inR .i64 ((i : Int) + 1) := inR_i64 (by omega) (by omega)
        simp -implicitDefEqProofs only [BB, Int.reduceEq, Int.reduceNe, Int.reduceLT, Int.reduceLE, Int.reduceGT, Int.reduceGE, Nat.reduceEqDiff, Nat.reduceAdd, Nat.reduceMul, Nat.reduceLeDiff, Nat.reduceSub, Nat.reduceLT, Nat.reduceBEq, ↓reduceIte, reduceCtorEq, ← decide_not, okind, vpre, vpure, intBin, intPre, strBin, strPre, popTo, argSlots, fldV, fldAV, subCells, idxVV, idxAAV, idxSV, sliceV, sliceSV, boundV, szIs, storeOp, storeS, setRowV, eff, extV, buildV, splice, eqSV, fitsL, eqCells, eqCell, minmaxV, capV, binBV, nilCheckV, bytesV, V.cells, V.stays, p10, p11, p12, hin]
        have sub43 : SubStore σ σ43 := fun q o ho => keepA hdB s43 q o (by rw [ho]; simp) (keep41 _ _ ho)
        refine ⟨xs.length - (i + 1), by omega, i + 1, by omega, rfl, sub43, ?_, by simp⟩
        rw [htk, List.map_append]
        refine OutV.new (by simp; omega) (by rw [a43]; simp [encN, Nd.cells, List.append_assoc]) (by
          cases hs : σ id43 with
          | none => rfl
          | some o => rw [keep41 _ _ hs] at f43; cases f43)
      · obtain ⟨q1, q2⟩ := plain fun s inner e => hb ⟨s, inner, e⟩
        rw [q1] at htk hmem
        simp only [List.length_cons, List.length_nil] at hmem
        generalize hy : ndS x = y at *
        simp -implicitDefEqProofs only [BB, Int.reduceEq, Int.reduceNe, Int.reduceLT, Int.reduceLE, Int.reduceGT, Int.reduceGE, Nat.reduceEqDiff, Nat.reduceAdd, Nat.reduceMul, Nat.reduceLeDiff, Nat.reduceSub, Nat.reduceLT, Nat.reduceBEq, ↓reduceIte, reduceCtorEq, ← decide_not, okind, vpre, vpure, intBin, intPre, strBin, strPre, popTo, argSlots, fldV, fldAV, subCells, idxVV, idxAAV, idxSV, sliceV, sliceSV, boundV, szIs, storeOp, storeS, setRowV, eff, extV, buildV, splice, eqSV, fitsL, eqCells, eqCell, minmaxV, capV, binBV, nilCheckV, bytesV, V.cells, V.stays, a6, encN, Nd.cells, q2]
        refine effR_new fun id7 σ7 s7 a7 f7 => ?_
        have b6 : σ7 id6 = some ⟨37, 20, [.agg y.cells]⟩ := s7 _ _ upd_same
        have n67 : id6 ≠ id7 := ne_new (σ := upd σ6 id6 ⟨37, 20, [.agg y.cells]⟩) upd_same f7
        have S1 := s6.updK (o := ⟨37, 20, [.agg y.cells]⟩) f6
        simp only [Nd.cells] at b6
        simp -implicitDefEqProofs only [BB, Int.reduceEq, Int.reduceNe, Int.reduceLT, Int.reduceLE, Int.reduceGT, Int.reduceGE, Nat.reduceEqDiff, Nat.reduceAdd, Nat.reduceMul, Nat.reduceLeDiff, Nat.reduceSub, Nat.reduceLT, Nat.reduceBEq, ↓reduceIte, reduceCtorEq, ← decide_not, okind, vpre, vpure, intBin, intPre, strBin, strPre, popTo, argSlots, fldV, fldAV, subCells, idxVV, idxAAV, idxSV, sliceV, sliceSV, boundV, szIs, storeOp, storeS, setRowV, eff, extV, buildV, splice, eqSV, fitsL, eqCells, eqCell, minmaxV, capV, binBV, nilCheckV, bytesV, V.cells, V.stays, a7, b6, upd_ne n67]
        refine effR_new fun id27 σ27 s27 a27 f27 => ?_
        have S2 := (S1.trans (s7.updK f7)).trans s27
        obtain ⟨idA, hda, hdA⟩ := out.dst' S2
        have hb : ((toldL (xs.take i)).length + 1) * 177 ≤ 140737488355328 := by omega
        simp -implicitDefEqProofs only [BB, Int.reduceEq, Int.reduceNe, Int.reduceLT, Int.reduceLE, Int.reduceGT, Int.reduceGE, Nat.reduceEqDiff, Nat.reduceAdd, Nat.reduceMul, Nat.reduceLeDiff, Nat.reduceSub, Nat.reduceLT, Nat.reduceBEq, ↓reduceIte, reduceCtorEq, ← decide_not, okind, vpre, vpure, intBin, intPre, strBin, strPre, popTo, argSlots, fldV, fldAV, subCells, idxVV, idxAAV, idxSV, sliceV, sliceSV, boundV, szIs, storeOp, storeS, setRowV, eff, extV, buildV, splice, eqSV, fitsL, eqCells, eqCell, minmaxV, capV, binBV, nilCheckV, bytesV, V.cells_agg, V.cells_int, V.cells_nils, V.cells_own, V.cells_sl, V.cells_str, V.cells_bool, V.cells_fn, V.cells_ptr, V.cells_rp, V.stays_agg, V.stays_int, V.stays_nils, V.stays_own, V.stays_sl, V.stays_str, V.stays_bool, V.stays_fn, V.stays_ptr, V.stays_rp, hda, srcOne a27, List.length_map, hb]
        refine effR_put fun id28 σ28 s28 a28 f28 => ?_
        have hin : inR .i64 ((i : Int) + 1) := inR_i64 (by omega) (by omega)
        simp -implicitDefEqProofs only [BB, Int.reduceEq, Int.reduceNe, Int.reduceLT, Int.reduceLE, Int.reduceGT, Int.reduceGE, Nat.reduceEqDiff, Nat.reduceAdd, Nat.reduceMul, Nat.reduceLeDiff, Nat.reduceSub, Nat.reduceLT, Nat.reduceBEq, ↓reduceIte, reduceCtorEq, ← decide_not, okind, vpre, vpure, intBin, intPre, strBin, strPre, popTo, argSlots, fldV, fldAV, subCells, idxVV, idxAAV, idxSV, sliceV, sliceSV, boundV, szIs, storeOp, storeS, setRowV, eff, extV, buildV, splice, eqSV, fitsL, eqCells, eqCell, minmaxV, capV, binBV, nilCheckV, bytesV, V.cells, V.stays, p10, p11, p12, hin]
        have sub28 : SubStore σ σ28 := fun q o ho => keepA hdA s28 q o (by rw [ho]; simp) (S2 _ _ (sub _ _ ho))
        refine ⟨xs.length - (i + 1), by omega, i + 1, by omega, rfl, sub28, ?_, by simp⟩
        rw [htk, List.map_append]
        exact OutV.new (by simp) (by rw [a28]; rfl) (sub.none (S2.none f28))
    · have e : i = xs.length := by omega
      subst e
      have hlt' : ((xs.length : Int) < (xs.length : Int)) = False := by simp
      (refine Runs.of_step Orc.nothing 300 ?_; simp -implicitDefEqProofs only [BB, effR_some, effD_some, Int.reduceEq, Int.reduceNe, Int.reduceLT, Int.reduceLE, Int.reduceGT, Int.reduceGE, Nat.reduceEqDiff, Nat.reduceAdd, Nat.reduceMul, Nat.reduceLeDiff, Nat.reduceSub, Nat.reduceLT, Nat.reduceBEq, ↓reduceIte, reduceCtorEq, ← decide_not, okind, vpre, vpure, intBin, intPre, strBin, strPre, popTo, argSlots, fldV, fldAV, subCells, idxVV, idxAAV, idxSV, sliceV, sliceSV, boundV, szIs, storeOp, storeS, setRowV, eff, extV, buildV, splice, eqSV, fitsL, eqCells, eqCell, minmaxV, capV, binBV, nilCheckV, bytesV, V.cells, V.stays, Orc.nothing, p10, p11, p12, hlt'])
      rw [List.take_length] at out
      exact out.retv sub rfl
end Go.Vc
namespace Go.Vc
open Go.Proofs
theorem textR_ge (l : List Tk) : 2 ≤ (textR l).1.length := by unfold textR; simp
theorem nodesR_wf : ∀ (f : Nat) (l : List Tk), wfL (nodesR f l).1 ∧ (toldL (nodesR f l).1).length + (nodesR f l).2.1.length ≤ l.length
  | 0, l => ⟨by simp [nodesR, wfL], by simp [nodesR, toldL]⟩
  | f + 1, l => by
    have hT : ∀ l w, wfL (if w = true then (([] : List Shp), l, true) else nodesR f l).1 ∧ (toldL (if w = true then (([] : List Shp), l, true) else nodesR f l).1).length + (if w = true then (([] : List Shp), l, true) else nodesR f l).2.1.length ≤ l.length := by
      intro l w
      split
      · exact ⟨by simp [wfL], by simp [toldL]⟩
      · exact nodesR_wf f l
    unfold nodesR
    split
    · rename_i hs
      have h1 := (takeR_yes hs).2
      have h2 := attrsT_len (fun _ => true) plainS l.tail false
      have h3 := hT (attrsT (fun _ => true) plainS l.tail false).2.1 (attrsT (fun _ => true) plainS l.tail false).2.2
      simp only
      generalize attrsT (fun _ => true) plainS l.tail false = a at *
      generalize (if a.2.2 = true then (([] : List Shp), a.2.1, true) else nodesR f a.2.1) = n at *
      have h4 := takeR_len 93 n.2.1 n.2.2
      generalize takeR 93 n.2.1 n.2.2 = c at *
      have h5 := hT c.1 c.2
      refine ⟨by rw [wfL, wfS]; exact ⟨⟨h2.1, h3.1⟩, h5.1⟩, ?_⟩
      rw [toldL, toldS]
      simp only [List.length_append, List.length_cons]
      omega
    · split
      · rename_i hs
        have h1 := textR_len hs
        have h2 := textR_ge l
        simp only
        have h5 := hT (textR l).2.1 (textR l).2.2
        refine ⟨by rw [wfL, wfS]; exact ⟨h2, h5.1⟩, ?_⟩
        rw [toldL, toldS]
        simp only [List.length_append, List.length_cons, List.length_nil]
        omega
      · split
        · rename_i hs
          have h1 := (takeR_yes hs).2
          have h2 := boxR_len 125 l.tail false
          simp only
          have h5 := hT (boxR 125 l.tail false).2.2.1 (boxR 125 l.tail false).2.2.2
          refine ⟨by rw [wfL, wfS]; exact ⟨trivial, h5.1⟩, ?_⟩
          rw [toldL, toldS]
          simp only [List.length_append, List.length_cons, List.length_nil]
          omega
        · split
          · rename_i hs
            have h1 := floatR_len hs
            have hx : ∃ w h d, (floatR l false).1 = .float w h d := ⟨_, _, _, rfl⟩
            simp only
            have h5 := hT (floatR l false).2.1 (floatR l false).2.2
            obtain ⟨w, v, d, hx⟩ := hx
            rw [hx]
            refine ⟨by rw [wfL, wfS]; exact ⟨trivial, h5.1⟩, ?_⟩
            rw [toldL, toldS]
            simp only [List.length_append, List.length_cons, List.length_nil]
            omega
          · exact ⟨by simp [wfL], by simp [toldL]⟩
theorem fromT_len : ∀ (L l : List Tk), fromT L = .ok l → l.length ≤ L.length
  | [], l, h => by simp only [fromT, Res.ok.injEq] at h; subst h; simp
  | t :: L, l, h => by
    unfold fromT at h
    split at h
    · cases h
    · cases hL : fromT L with
      | bad p => rw [hL] at h; simp [Res.cons] at h
      | ok m =>
        rw [hL] at h
        simp only [Res.cons, Res.ok.injEq] at h
        subst h
        have := fromT_len L m hL
        simp only [List.length_cons]; omega
theorem ofI_len {s : List UInt8} {l : List Tk} (h : ofI s false 0 = .ok l) : l.length ≤ s.length := by
  rw [← ofC_eq] at h
  unfold ofC at h
  split at h
  · exact Nat.le_trans (fromT_len _ _ h) (by simpa using allI_len s s.length 0 0 (by omega))
  · split at h <;> cases h
/-- what a script is read as -/
def readR (s : List UInt8) : List Nd × Int × Int := match ofI s false 0 with
  | .bad p => ([], p, 1)
  | .ok l => match (nodesR l.length l).2.1 with
    | t :: _ => ([], t.at', 1)
    | [] => if (nodesR l.length l).2.2 then ([], s.length, 1) else (toldL (nodesR l.length l).1, 0, 0)
def readV (r : List Nd × Int × Int) : V := .tup [encNs r.1, vI r.2.1, vI r.2.2]
theorem retE {σ : Store} {a b : Int} {τ : Store} (h : SubStore σ τ) : RetV (.tup [.nils, vI a, vI b]) τ fun r σ' => r = readV ([], a, b) ∧ σ' = σ :=
  ⟨_, σ, h, Wk.tup (by simp only [WkL]; exact ⟨Wk.nils 20, Wk.refl h _, Wk.refl h _, trivial⟩), rfl, rfl⟩
theorem readOf_c (s : List UInt8) (hs : s.length ≤ 1000000) : PFun Tryd.prog 12 [.str s] (readV (readR s)) := fun σ => by
  refine Contract.of_runs Tryd.func12 e12 k12 (by simp [c12]) ?_
  refine Runs.mix 8 ?_
  (refine Runs.of_step Orc.nothing 300 ?_; simp -implicitDefEqProofs only [BB, effR_some, effD_some, Int.reduceEq, Int.reduceNe, Int.reduceLT, Int.reduceLE, Int.reduceGT, Int.reduceGE, Nat.reduceEqDiff, Nat.reduceAdd, Nat.reduceMul, Nat.reduceLeDiff, Nat.reduceSub, Nat.reduceLT, Nat.reduceBEq, ↓reduceIte, reduceCtorEq, ← decide_not, okind, vpre, vpure, intBin, intPre, strBin, strPre, popTo, argSlots, fldV, fldAV, subCells, idxVV, idxAAV, idxSV, sliceV, sliceSV, boundV, szIs, storeOp, storeS, setRowV, eff, extV, buildV, splice, eqSV, fitsL, eqCells, eqCell, minmaxV, capV, binBV, nilCheckV, bytesV, V.cells, V.stays, Orc.nothing, c12])
  refine Runs.pcall rfl rfl rfl (of_lex s hs _) ?_
  cases hl : ofI s false 0 with
  | bad p =>
    have hr : readR s = ([], (p : Int), 1) := by rw [readR, hl]
    rw [hr]
    (refine Runs.of_step Orc.nothing 300 ?_; simp -implicitDefEqProofs only [BB, effR_some, effD_some, Int.reduceEq, Int.reduceNe, Int.reduceLT, Int.reduceLE, Int.reduceGT, Int.reduceGE, Nat.reduceEqDiff, Nat.reduceAdd, Nat.reduceMul, Nat.reduceLeDiff, Nat.reduceSub, Nat.reduceLT, Nat.reduceBEq, ↓reduceIte, reduceCtorEq, ← decide_not, okind, vpre, vpure, intBin, intPre, strBin, strPre, popTo, argSlots, fldV, fldAV, subCells, idxVV, idxAAV, idxSV, sliceV, sliceSV, boundV, szIs, storeOp, storeS, setRowV, eff, extV, buildV, splice, eqSV, fitsL, eqCells, eqCell, minmaxV, capV, binBV, nilCheckV, bytesV, V.cells, V.stays, Orc.nothing, resT])
    exact retE (SubStore.refl _)
  | ok l =>
    have hll := ofI_len hl
    (refine Runs.of_step Orc.nothing 300 ?_; simp -implicitDefEqProofs only [BB, Int.reduceEq, Int.reduceNe, Int.reduceLT, Int.reduceLE, Int.reduceGT, Int.reduceGE, Nat.reduceEqDiff, Nat.reduceAdd, Nat.reduceMul, Nat.reduceLeDiff, Nat.reduceSub, Nat.reduceLT, Nat.reduceBEq, ↓reduceIte, reduceCtorEq, ← decide_not, okind, vpre, vpure, intBin, intPre, strBin, strPre, popTo, argSlots, fldV, fldAV, subCells, idxVV, idxAAV, idxSV, sliceV, sliceSV, boundV, szIs, storeOp, storeS, setRowV, eff, extV, buildV, splice, eqSV, fitsL, eqCells, eqCell, minmaxV, capV, binBV, nilCheckV, bytesV, V.cells, V.stays, Orc.nothing, resT])
    refine effR_new fun id6 σ6 s6 a6 f6 => ?_
    have h6 : σ6 id6 = some (rdr l false) := a6
    simp -implicitDefEqProofs only [BB, Int.reduceEq, Int.reduceNe, Int.reduceLT, Int.reduceLE, Int.reduceGT, Int.reduceGE, Nat.reduceEqDiff, Nat.reduceAdd, Nat.reduceMul, Nat.reduceLeDiff, Nat.reduceSub, Nat.reduceLT, Nat.reduceBEq, ↓reduceIte, reduceCtorEq, ← decide_not, okind, vpre, vpure, intBin, intPre, strBin, strPre, popTo, argSlots, fldV, fldAV, subCells, idxVV, idxAAV, idxSV, sliceV, sliceSV, boundV, szIs, storeOp, storeS, setRowV, eff, extV, buildV, splice, eqSV, fitsL, eqCells, eqCell, minmaxV, capV, binBV, nilCheckV, bytesV, V.cells, V.stays]
    refine Runs.call rfl rfl rfl (nodes_c l.length σ6 id6 l false (Nat.le_refl _) (by omega) h6) ?_
    have hn0 : nodesT l.length l false = nodesR l.length l := rfl
    rw [hn0]
    have hwf := nodesR_wf l.length l
    generalize hn : nodesR l.length l = n at *
    rintro r1 σ7 ⟨rfl, hσ7⟩
    have hσ7 : σ7 = upd σ6 id6 (rdr n.2.1 n.2.2) := hσ7
    have sub7 : SubStore σ σ7 := by rw [hσ7]; exact s6.updK f6
    have h7 : σ7 id6 = some (rdr n.2.1 n.2.2) := by rw [hσ7]; exact upd_same
    cases hrest : n.2.1 with
    | cons t r =>
      have hr : readR s = ([], t.at', 1) := by rw [readR, hl]; simp only [hn, hrest]
      rw [hr]
      rw [hrest] at h7
      have h7 : σ7 id6 = some ⟨57, 2, [.agg [.sl 4 (encT t :: r.map encT), .bool n.2.2]]⟩ := h7
      (refine Runs.of_step Orc.nothing 300 ?_; simp -implicitDefEqProofs only [BB, effR_some, effD_some, Int.reduceEq, Int.reduceNe, Int.reduceLT, Int.reduceLE, Int.reduceGT, Int.reduceGE, Nat.reduceEqDiff, Nat.reduceAdd, Nat.reduceMul, Nat.reduceLeDiff, Nat.reduceSub, Nat.reduceLT, Nat.reduceBEq, ↓reduceIte, reduceCtorEq, ← decide_not, okind, vpre, vpure, intBin, intPre, strBin, strPre, popTo, argSlots, fldV, fldAV, subCells, idxVV, idxAAV, idxSV, sliceV, sliceSV, boundV, szIs, storeOp, storeS, setRowV, eff, extV, buildV, splice, eqSV, fitsL, eqCells, eqCell, minmaxV, capV, binBV, nilCheckV, bytesV, V.cells, V.stays, Orc.nothing, h7, len1, idx0])
      exact retE sub7
    | nil =>
      rw [hrest] at h7 hwf
      have h7 : σ7 id6 = some ⟨57, 2, [.agg [.sl 4 [], .bool n.2.2]]⟩ := h7
      cases hw : n.2.2 with
      | true =>
        have hr : readR s = ([], (s.length : Int), 1) := by rw [readR, hl]; simp only [hn, hrest, hw, if_true]
        rw [hr]
        rw [hw] at h7
        (refine Runs.of_step Orc.nothing 300 ?_; simp -implicitDefEqProofs only [BB, effR_some, effD_some, Int.reduceEq, Int.reduceNe, Int.reduceLT, Int.reduceLE, Int.reduceGT, Int.reduceGE, Nat.reduceEqDiff, Nat.reduceAdd, Nat.reduceMul, Nat.reduceLeDiff, Nat.reduceSub, Nat.reduceLT, Nat.reduceBEq, ↓reduceIte, reduceCtorEq, ← decide_not, okind, vpre, vpure, intBin, intPre, strBin, strPre, popTo, argSlots, fldV, fldAV, subCells, idxVV, idxAAV, idxSV, sliceV, sliceSV, boundV, szIs, storeOp, storeS, setRowV, eff, extV, buildV, splice, eqSV, fitsL, eqCells, eqCell, minmaxV, capV, binBV, nilCheckV, bytesV, V.cells, V.stays, Orc.nothing, h7, len0])
        exact retE sub7
      | false =>
        have hr : readR s = (toldL n.1, 0, 0) := by rw [readR, hl]; simp only [hn, hrest, hw, Bool.false_eq_true, if_false]
        rw [hr]
        rw [hw] at h7
        (refine Runs.of_step Orc.nothing 300 ?_; simp -implicitDefEqProofs only [BB, effR_some, effD_some, Int.reduceEq, Int.reduceNe, Int.reduceLT, Int.reduceLE, Int.reduceGT, Int.reduceGE, Nat.reduceEqDiff, Nat.reduceAdd, Nat.reduceMul, Nat.reduceLeDiff, Nat.reduceSub, Nat.reduceLT, Nat.reduceBEq, ↓reduceIte, reduceCtorEq, ← decide_not, okind, vpre, vpure, intBin, intPre, strBin, strPre, popTo, argSlots, fldV, fldAV, subCells, idxVV, idxAAV, idxSV, sliceV, sliceSV, boundV, szIs, storeOp, storeS, setRowV, eff, extV, buildV, splice, eqSV, fitsL, eqCells, eqCell, minmaxV, capV, binBV, nilCheckV, bytesV, V.cells, V.stays, Orc.nothing, h7, len0])
        simp only [List.length_nil, Nat.add_zero] at hwf
        refine Runs.pcall rfl rfl rfl (told_c l.length n.1 hwf.2 (by omega) (Nat.le_trans (toldL_ge _) (by omega)) hwf.1 _) ?_
        (refine Runs.of_step Orc.nothing 300 ?_; simp -implicitDefEqProofs only [BB, effR_some, effD_some, Int.reduceEq, Int.reduceNe, Int.reduceLT, Int.reduceLE, Int.reduceGT, Int.reduceGE, Nat.reduceEqDiff, Nat.reduceAdd, Nat.reduceMul, Nat.reduceLeDiff, Nat.reduceSub, Nat.reduceLT, Nat.reduceBEq, ↓reduceIte, reduceCtorEq, ← decide_not, okind, vpre, vpure, intBin, intPre, strBin, strPre, popTo, argSlots, fldV, fldAV, subCells, idxVV, idxAAV, idxSV, sliceV, sliceSV, boundV, szIs, storeOp, storeS, setRowV, eff, extV, buildV, splice, eqSV, fitsL, eqCells, eqCell, minmaxV, capV, binBV, nilCheckV, bytesV, V.cells, V.stays, Orc.nothing])
        exact RetV.pure sub7 rfl
end Go.Vc
namespace Go.Vc
open Go.Proofs
theorem readIs_c (s : List UInt8) (hs : s.length ≤ 1000000) : PFun Tryd.prog 15 [.str s] (.bool (decide ((readR s).2.2 = 0))) := fun σ => by
  refine Contract.of_runs Tryd.func15 e15 k15 (by simp [c15]) ?_
  refine Runs.mix 6 ?_
  (refine Runs.of_step Orc.nothing 300 ?_; simp -implicitDefEqProofs only [BB, effR_some, effD_some, Int.reduceEq, Int.reduceNe, Int.reduceLT, Int.reduceLE, Int.reduceGT, Int.reduceGE, Nat.reduceEqDiff, Nat.reduceAdd, Nat.reduceMul, Nat.reduceLeDiff, Nat.reduceSub, Nat.reduceLT, Nat.reduceBEq, ↓reduceIte, reduceCtorEq, ← decide_not, okind, vpre, vpure, intBin, intPre, strBin, strPre, popTo, argSlots, fldV, fldAV, subCells, idxVV, idxAAV, idxSV, sliceV, sliceSV, boundV, szIs, storeOp, storeS, setRowV, eff, extV, buildV, splice, eqSV, fitsL, eqCells, eqCell, minmaxV, capV, binBV, nilCheckV, bytesV, V.cells, V.stays, Orc.nothing, c15])
  refine Runs.pcall rfl rfl rfl (readOf_c s hs _) ?_
  (refine Runs.of_step Orc.nothing 300 ?_; simp -implicitDefEqProofs only [BB, effR_some, effD_some, Int.reduceEq, Int.reduceNe, Int.reduceLT, Int.reduceLE, Int.reduceGT, Int.reduceGE, Nat.reduceEqDiff, Nat.reduceAdd, Nat.reduceMul, Nat.reduceLeDiff, Nat.reduceSub, Nat.reduceLT, Nat.reduceBEq, ↓reduceIte, reduceCtorEq, ← decide_not, okind, vpre, vpure, intBin, intPre, strBin, strPre, popTo, argSlots, fldV, fldAV, subCells, idxVV, idxAAV, idxSV, sliceV, sliceSV, boundV, szIs, storeOp, storeS, setRowV, eff, extV, buildV, splice, eqSV, fitsL, eqCells, eqCell, minmaxV, capV, binBV, nilCheckV, bytesV, V.cells, V.stays, Orc.nothing, readV])
  exact RetV.same rfl
end Go.Vc
namespace Go.Vc
open Go.Proofs
def lettersB : List UInt8 := [109, 110, 112, 113, 105, 111, 119, 104, 66, 65, 73, 99]
end Go.Vc
namespace Go.Vc
open Go.Proofs
def limR (c : Int) : Int × Int := if c = 111 ∨ c = 119 ∨ c = 104 then (1, MX) else if c = 66 ∨ c = 65 then (0, 4) else if c = 73 then (0, 1) else if c = 99 then (0, 3) else (0, MX)
end Go.Vc
namespace Go.Vc
open Go.Proofs
theorem FzL.same {σ : Store} {N : Nat → Prop} : ∀ (vs : List V), noidL vs = true → FzL σ N vs vs
  | [], _ => .nil
  | v :: vs, h => by
    simp only [noidL, Bool.and_eq_true] at h
    exact .cons _ _ _ _ (.same v h.1) (FzL.same vs h.2)
theorem FzL.app {σ : Store} {N : Nat → Prop} : ∀ {a b c d : List V}, FzL σ N a b → FzL σ N c d → FzL σ N (a ++ c) (b ++ d)
  | _, _, _, _, .nil, h => h
  | _, _, _, _, .cons v u vs us h h', h2 => .cons v u _ _ h (FzL.app h' h2)
theorem FzL.one {σ : Store} {N : Nat → Prop} {v u : V} (h : Fz σ N v u) : FzL σ N [v] [u] := .cons _ _ _ _ h .nil
theorem OutV.upd_ne {K σ : Store} {e sz : Nat} {v : V} {rows : List V} (h : OutV K σ e sz v rows) {id : Nat} {o : Ob} (hK : K id ≠ none) : OutV K (upd σ id o) e sz v rows := by
  rcases h with h | ⟨q, h1, h2, h3⟩
  · exact .inl h
  · have : q ≠ id := fun e => hK (by rw [← e]; exact h3)
    exact .inr ⟨q, h1, by rw [Vc.upd_ne this]; exact h2, h3⟩
/-- a node's cells, its words' cell apart -/
abbrev ndPre (x : Nd) : List V := [vI x.kind, vI x.size, vI x.st.top, vI x.st.bottom, vI x.st.padTop, vI x.st.padBottom, vI x.st.inset, vI x.st.orphans, vI x.st.widows, vI x.st.head, vI x.st.before, vI x.st.after, vI x.st.inside, vI x.st.clear, vI x.line, vI x.space]
def ndW (x : Nd) (v : V) : V := .agg [vI x.kind, vI x.size, vI x.st.top, vI x.st.bottom, vI x.st.padTop, vI x.st.padBottom, vI x.st.inset, vI x.st.orphans, vI x.st.widows, vI x.st.head, vI x.st.before, vI x.st.after, vI x.st.inside, vI x.st.clear, vI x.line, vI x.space, v, vI x.side, vI x.w, vI x.h]
theorem fz_nd {σ : Store} {N : Nat → Prop} {x : Nd} {v : V} (h : Fz σ N v (encI x.words)) : Fz σ N (ndW x v) (encN x) := by
  refine .agg _ _ ?_
  exact (FzL.same (ndPre x) rfl).app ((FzL.one h).app (FzL.same [vI x.side, vI x.w, vI x.h] rfl))
structure XInv (K σ : Store) (id5 : Nat) (x : Nd) (v : V) : Prop where
  off : Off id5 K σ
  r5 : σ id5 = some ⟨37, 20, [ndW x v]⟩
  out : OutV K σ 3 1 v (x.words.map vI)
theorem XInv.push {K σ σ1 σ2 : Store} {id5 i2 : Nat} {x : Nd} {v : V} {n : Int} {idA : Option Nat} (inv : XInv K σ id5 x v) (hK : K id5 ≠ none) (s1 : SubStore σ σ1) (hA : ∀ i, idA = some i → K i = none ∧ ∃ o, σ i = some o)
    (s2 : SubStore (delO σ1 idA) σ2) (a2 : σ2 i2 = some ⟨3, 1, x.words.map vI ++ [vI n]⟩) (f2 : σ1 i2 = none) :
    XInv K (upd σ2 id5 ⟨37, 20, [ndW { x with words := x.words ++ [n] } (.own i2 0 (x.words.length + 1))]⟩) id5 { x with words := x.words ++ [n] } (.own i2 0 (x.words.length + 1)) where
  off := Off.upd fun q hq o ho => keepA hA s2 q o (by rw [ho]; simp) (s1 _ _ (inv.off q hq o ho))
  r5 := upd_same
  out := by
    have f : σ i2 = none := s1.none f2
    have hne : i2 ≠ id5 := fun e => by rw [e, inv.r5] at f; cases f
    refine OutV.new (by simp) (by rw [upd_ne hne, a2]; simp) ?_
    exact inv.off.none inv.r5 f
end Go.Vc
namespace Go.Vc
/-- a reader of l, and one of l and what stands behind it: they stand at the same place, or the first one is at its end -/
def Sim (r : List Tk) (x y : RS) : Prop := (y.1 = x.1 ++ r ∧ y.2 = x.2) ∨ (x.1 = [] ∧ y.1.length ≤ r.length)
theorem Sim.of_nil {r : List Tk} {x y : RS} (h : Sim r x y) (hx : x.1 = []) : x.1 = [] ∧ y.1.length ≤ r.length := by
  rcases h with h | h
  · exact ⟨hx, by rw [h.1, hx]; simp⟩
  · exact h
theorem len0_nil {l : List Tk} (h : l.length ≤ ([] : List Tk).length) : l = [] := List.length_eq_zero_iff.1 (by simpa using h)
theorem sign_app {c : Int} {t : Tk} {l r : List Tk} : signB c (t :: l ++ r) = signB c (t :: l) := rfl
theorem num_app {a b : Int} {t : Tk} {l r : List Tk} : numB a b (t :: l ++ r) = numB a b (t :: l) := rfl
theorem sim_take {r : List Tk} {x y : RS} (c : Int) (h : Sim r x y) : Sim r (takeR c x.1 x.2) (takeR c y.1 y.2) := by
  have hx := takeR_len c x.1 x.2
  have hy := takeR_len c y.1 y.2
  by_cases h0 : x.1 = []
  · obtain ⟨h1, h2⟩ := h.of_nil h0
    rw [h0] at hx ⊢
    exact .inr ⟨len0_nil hx, by omega⟩
  · rcases h with ⟨h1, h2⟩ | ⟨h1, _⟩
    · obtain ⟨l, w⟩ := x
      obtain ⟨L, W⟩ := y
      simp only at h0 h1 h2 ⊢
      subst h1 h2
      cases l with
      | nil => exact absurd rfl h0
      | cons t l =>
        unfold takeR
        rw [sign_app]
        split
        · exact .inl ⟨rfl, rfl⟩
        · exact .inl ⟨rfl, rfl⟩
    · exact absurd h1 h0
theorem sim_count {r : List Tk} {x y : RS} (a b : Int) (h : Sim r x y) : Sim r (countR a b x.1 x.2).2 (countR a b y.1 y.2).2 := by
  have hx := count_len a b x.1 x.2
  have hy := count_len a b y.1 y.2
  by_cases h0 : x.1 = []
  · obtain ⟨h1, h2⟩ := h.of_nil h0
    rw [h0] at hx ⊢
    exact .inr ⟨len0_nil hx, by omega⟩
  · rcases h with ⟨h1, h2⟩ | ⟨h1, _⟩
    · obtain ⟨l, w⟩ := x
      obtain ⟨L, W⟩ := y
      simp only at h0 h1 h2 ⊢
      subst h1 h2
      cases l with
      | nil => exact absurd rfl h0
      | cons t l =>
        rw [List.cons_append, countR, countR, ← List.cons_append, num_app]
        split
        · exact .inl ⟨rfl, rfl⟩
        · exact .inl ⟨rfl, rfl⟩
    · exact absurd h1 h0
theorem sim_box {r : List Tk} {x y : RS} (e : Int) (h : Sim r x y) : Sim r (boxR e x.1 x.2).2.2 (boxR e y.1 y.2).2.2 :=
  sim_take e (sim_count 1 MX (sim_count 1 MX h))
theorem sim_attrs (r : List Tk) : ∀ (m : Nat) (l : List Tk) (av : Int → Bool) (s S : List Int) (w : Bool), l.length ≤ m → Sim r (attrsT av s l w).2 (attrsT av S (l ++ r) w).2 := by
  intro m
  induction m with
  | zero =>
    intro l av s S w hm
    have h0 : l = [] := List.length_eq_zero_iff.1 (by omega)
    subst h0
    have hx := (attrsT_len av s [] w).2
    have hy := (attrsT_len av S ([] ++ r) w).2
    exact .inr ⟨len0_nil hx, by simpa using hy⟩
  | succ m ih =>
    intro l av s S w hm
    cases w with
    | true => exact .inl ⟨rfl, rfl⟩
    | false =>
      cases l with
      | nil =>
        have hx := (attrsT_len av s [] false).2
        have hy := (attrsT_len av S ([] ++ r) false).2
        exact .inr ⟨len0_nil hx, by simpa using hy⟩
      | cons t l =>
        have hst : ∀ (s : List Int) (l : List Tk), (¬ (t.kind = 1) ∨ (if av t.sign then spec t.sign else none) = none) → attrsT av s (t :: l) false = (s, t :: l, false) := by
          intro s l h
          unfold attrsT
          rw [if_neg (by simp), attrsR]
          by_cases h1 : t.kind = 1
          · rw [if_pos h1]
            rcases h with h | h
            · exact absurd h1 h
            · rw [h]
          · rw [if_neg h1]
        by_cases hk : ¬ (t.kind = 1) ∨ (if av t.sign then spec t.sign else none) = none
        · rw [List.cons_append, hst _ _ hk, hst _ _ hk]
          exact .inl ⟨rfl, rfl⟩
        · have h1 : t.kind = 1 := Classical.byContradiction fun h => hk (.inl h)
          have h2 : (if av t.sign then spec t.sign else none) ≠ none := fun h => hk (.inr h)
          have h3 : av t.sign = true := by
            apply Classical.byContradiction
            intro h
            rw [if_neg h] at h2
            exact h2 rfl
          rw [if_pos h3] at h2
          obtain ⟨⟨k, a, b⟩, h4⟩ := Option.ne_none_iff_exists'.1 h2
          have e1 : ∀ (s : List Int) (l : List Tk), attrsT av s (t :: l) false = attrsT (fun c => if c = t.sign then false else av c) (s.set k (countR a b l false).1) (countR a b l false).2.1 (countR a b l false).2.2 := by
            intro s l
            rw [attrsT, if_neg (by simp)]
            exact attrsT_step h1 h3 h4
          rw [List.cons_append, e1, e1]
          have hc := sim_count (r := r) (x := (l, false)) (y := (l ++ r, false)) a b (.inl ⟨rfl, rfl⟩)
          simp only at hc
          have hl := count_len a b l false
          simp only [List.length_cons] at hm
          generalize countR a b l false = c at *
          generalize countR a b (l ++ r) false = C at *
          rcases hc with ⟨g1, g2⟩ | ⟨g1, g2⟩
          · rw [g1, g2]
            exact ih c.2.1 _ _ _ c.2.2 (by omega)
          · rw [g1]
            have hx := (attrsT_len (fun c => if c = t.sign then false else av c) (s.set k c.1) [] c.2.2).2
            have hy := (attrsT_len (fun c => if c = t.sign then false else av c) (S.set k C.1) C.2.1 C.2.2).2
            exact .inr ⟨len0_nil hx, by omega⟩
theorem sim_nums (r : List Tk) : ∀ (l : List Tk) (w : Bool), Sim r ((numsR l).2, w) ((numsR (l ++ r)).2, w)
  | [], w => .inr ⟨rfl, by simpa using numsR_len r⟩
  | t :: l, w => by
    rw [List.cons_append, numsR, numsR, ← List.cons_append, num_app]
    split
    · exact sim_nums r l w
    · exact .inl ⟨rfl, rfl⟩
theorem sim_text {r l : List Tk} (hs : signB 40 l = true) : Sim r (textR l).2 (textR (l ++ r)).2 := by
  unfold textR
  simp only
  have h0 : Sim r (l, false) (l ++ r, false) := .inl ⟨rfl, rfl⟩
  have h1 := sim_take 40 h0
  have h2 := sim_count 1 MX h1
  have h3 := sim_count 0 MX h2
  have h4 := sim_count 1 MX h3
  simp only at h1 h2 h3 h4
  generalize countR 1 MX (countR 0 MX (countR 1 MX (takeR 40 l false).1 (takeR 40 l false).2).2.1 (countR 1 MX (takeR 40 l false).1 (takeR 40 l false).2).2.2).2.1
    (countR 0 MX (countR 1 MX (takeR 40 l false).1 (takeR 40 l false).2).2.1 (countR 1 MX (takeR 40 l false).1 (takeR 40 l false).2).2.2).2.2 = c at *
  generalize countR 1 MX (countR 0 MX (countR 1 MX (takeR 40 (l ++ r) false).1 (takeR 40 (l ++ r) false).2).2.1 (countR 1 MX (takeR 40 (l ++ r) false).1 (takeR 40 (l ++ r) false).2).2.2).2.1
    (countR 0 MX (countR 1 MX (takeR 40 (l ++ r) false).1 (takeR 40 (l ++ r) false).2).2.1 (countR 1 MX (takeR 40 (l ++ r) false).1 (takeR 40 (l ++ r) false).2).2.2).2.2 = C at *
  rcases h4 with ⟨g1, g2⟩ | ⟨g1, g2⟩
  · rw [g1, g2]
    exact sim_take 41 (sim_nums r c.2.1 c.2.2)
  · rw [g1]
    have hy := numsR_len C.2.1
    exact sim_take (x := ((numsR []).2, c.2.2)) (y := ((numsR C.2.1).2, C.2.2)) 41 (.inr ⟨rfl, by simp only; omega⟩)
theorem sim_float {r l : List Tk} (hs : signB 60 l = true) : Sim r (floatR l false).2 (floatR (l ++ r) false).2 := by
  unfold floatR
  simp only
  have h0 : Sim r (l, false) (l ++ r, false) := .inl ⟨rfl, rfl⟩
  have h1 := sim_take 60 h0
  simp only at h1
  generalize takeR 60 l false = a at *
  generalize takeR 60 (l ++ r) false = A at *
  by_cases ha : a.1 = []
  · obtain ⟨_, g2⟩ := h1.of_nil ha
    have hx := boxR_len 62 (takeR (if signB 82 a.1 then 82 else 76) a.1 a.2).1 (takeR (if signB 82 a.1 then 82 else 76) a.1 a.2).2
    have hx1 := takeR_len (if signB 82 a.1 then 82 else 76) a.1 a.2
    have hy := boxR_len 62 (takeR (if signB 82 A.1 then 82 else 76) A.1 A.2).1 (takeR (if signB 82 A.1 then 82 else 76) A.1 A.2).2
    have hy1 := takeR_len (if signB 82 A.1 then 82 else 76) A.1 A.2
    have ha0 : a.1.length = 0 := by rw [ha]; rfl
    exact .inr ⟨List.length_eq_zero_iff.1 (by omega), by omega⟩
  · have hsg : signB 82 A.1 = signB 82 a.1 := by
      rcases h1 with ⟨g1, g2⟩ | ⟨g1, g2⟩
      · rw [g1]
        cases hc : a.1 with
        | nil => exact absurd hc ha
        | cons t q => rfl
      · exact absurd g1 ha
    rw [hsg]
    exact sim_box 62 (sim_take _ h1)
theorem nodesT_nil (f : Nat) (w : Bool) : (nodesT f [] w).1 = [] ∧ (nodesT f [] w).2.1 = [] := by
  unfold nodesT
  cases w with
  | true => exact ⟨rfl, rfl⟩
  | false =>
    rw [if_neg (by simp)]
    cases f with
    | zero => exact ⟨rfl, rfl⟩
    | succ f => simp [nodesR, signB]
theorem nodesR_none {f : Nat} {l : List Tk} (h1 : signB 91 l = false) (h2 : signB 40 l = false) (h3 : signB 123 l = false) (h4 : signB 60 l = false) : nodesR f l = ([], l, false) := by
  cases f with
  | zero => rfl
  | succ f => rw [nodesR, if_neg (by simp [h1]), if_neg (by simp [h2]), if_neg (by simp [h3]), if_neg (by simp [h4])]
theorem nodesR_block {f : Nat} {l : List Tk} (h1 : signB 91 l = true) : nodesR (f + 1) l = (Shp.block (attrsT (fun _ => true) plainS l.tail false).1 (nodesT f (attrsT (fun _ => true) plainS l.tail false).2.1 (attrsT (fun _ => true) plainS l.tail false).2.2).1 ::
    (nodesT f (takeR 93 (nodesT f (attrsT (fun _ => true) plainS l.tail false).2.1 (attrsT (fun _ => true) plainS l.tail false).2.2).2.1 (nodesT f (attrsT (fun _ => true) plainS l.tail false).2.1 (attrsT (fun _ => true) plainS l.tail false).2.2).2.2).1 (takeR 93 (nodesT f (attrsT (fun _ => true) plainS l.tail false).2.1 (attrsT (fun _ => true) plainS l.tail false).2.2).2.1 (nodesT f (attrsT (fun _ => true) plainS l.tail false).2.1 (attrsT (fun _ => true) plainS l.tail false).2.2).2.2).2).1,
    (nodesT f (takeR 93 (nodesT f (attrsT (fun _ => true) plainS l.tail false).2.1 (attrsT (fun _ => true) plainS l.tail false).2.2).2.1 (nodesT f (attrsT (fun _ => true) plainS l.tail false).2.1 (attrsT (fun _ => true) plainS l.tail false).2.2).2.2).1 (takeR 93 (nodesT f (attrsT (fun _ => true) plainS l.tail false).2.1 (attrsT (fun _ => true) plainS l.tail false).2.2).2.1 (nodesT f (attrsT (fun _ => true) plainS l.tail false).2.1 (attrsT (fun _ => true) plainS l.tail false).2.2).2.2).2).2) := by
  rw [nodesR, if_pos h1]; rfl
theorem nodesR_text {f : Nat} {l : List Tk} (h1 : signB 91 l = false) (h2 : signB 40 l = true) : nodesR (f + 1) l = (Shp.text (textR l).1 :: (nodesT f (textR l).2.1 (textR l).2.2).1, (nodesT f (textR l).2.1 (textR l).2.2).2) := by
  rw [nodesR, if_neg (by simp [h1]), if_pos h2]; rfl
theorem nodesR_box {f : Nat} {l : List Tk} (h1 : signB 91 l = false) (h2 : signB 40 l = false) (h3 : signB 123 l = true) : nodesR (f + 1) l = (Shp.box (boxR 125 l.tail false).1 (boxR 125 l.tail false).2.1 ::
    (nodesT f (boxR 125 l.tail false).2.2.1 (boxR 125 l.tail false).2.2.2).1, (nodesT f (boxR 125 l.tail false).2.2.1 (boxR 125 l.tail false).2.2.2).2) := by
  rw [nodesR, if_neg (by simp [h1]), if_neg (by simp [h2]), if_pos h3]; rfl
theorem nodesR_float {f : Nat} {l : List Tk} (h1 : signB 91 l = false) (h2 : signB 40 l = false) (h3 : signB 123 l = false) (h4 : signB 60 l = true) : nodesR (f + 1) l = ((floatR l false).1 ::
    (nodesT f (floatR l false).2.1 (floatR l false).2.2).1, (nodesT f (floatR l false).2.1 (floatR l false).2.2).2) := by
  rw [nodesR, if_neg (by simp [h1]), if_neg (by simp [h2]), if_neg (by simp [h3]), if_pos h4]; rfl
theorem sign_cases (l : List Tk) : signB 91 l = true ∨ (signB 91 l = false ∧ signB 40 l = true) ∨ (signB 91 l = false ∧ signB 40 l = false ∧ signB 123 l = true) ∨ (signB 91 l = false ∧ signB 40 l = false ∧ signB 123 l = false ∧ signB 60 l = true) ∨
    (signB 91 l = false ∧ signB 40 l = false ∧ signB 123 l = false ∧ signB 60 l = false) := by
  cases signB 91 l <;> cases signB 40 l <;> cases signB 123 l <;> cases signB 60 l <;> simp
/-- two readers of nodes -/
theorem sim_nodes (r : List Tk) : ∀ (m : Nat) (x y : RS) (f F : Nat), x.1.length ≤ m → x.1.length ≤ f → y.1.length ≤ F → Sim r x y → Sim r (nodesT f x.1 x.2).2 (nodesT F y.1 y.2).2 := by
  intro m
  induction m using Nat.strongRecOn with
  | _ m ih =>
    intro x y f F hm hf hF h
    have hyl := nodesT_len F y.1 y.2
    by_cases h0 : x.1 = []
    · obtain ⟨_, g2⟩ := h.of_nil h0
      rw [h0]
      exact .inr ⟨(nodesT_nil f x.2).2, by omega⟩
    · rcases h with ⟨g1, g2⟩ | ⟨g1, _⟩
      · obtain ⟨l, w⟩ := x
        obtain ⟨L, W⟩ := y
        simp only at h0 g1 g2 hm hf hF ⊢
        subst g1 g2
        clear hyl
        cases W with
        | true => exact .inl ⟨rfl, rfl⟩
        | false =>
          cases l with
          | nil => exact absurd rfl h0
          | cons t l =>
            simp only [List.length_cons, List.cons_append] at hm hf hF
            obtain ⟨f, rfl⟩ : ∃ g, f = g + 1 := ⟨f - 1, by omega⟩
            obtain ⟨F, rfl⟩ : ∃ g, F = g + 1 := ⟨F - 1, by omega⟩
            simp only [List.length_append] at hF
            have e0 : nodesT (f + 1) (t :: l) false = nodesR (f + 1) (t :: l) := rfl
            have e1 : nodesT (F + 1) (t :: l ++ r) false = nodesR (F + 1) (t :: l ++ r) := rfl
            rw [e0, e1]
            have sg : ∀ c, signB c (t :: l ++ r) = signB c (t :: l) := fun c => rfl
            have tl : (t :: l ++ r).tail = l ++ r := rfl
            rcases sign_cases (t :: l) with q | ⟨q1, q2⟩ | ⟨q1, q2, q3⟩ | ⟨q1, q2, q3, q4⟩ | ⟨q1, q2, q3, q4⟩
            · rw [nodesR_block q, nodesR_block (by rw [sg]; exact q)]
              simp only [tl, List.tail_cons]
              have ha := sim_attrs r l.length l (fun _ => true) plainS plainS false (Nat.le_refl _)
              have ha1 := (attrsT_len (fun _ => true) plainS l false).2
              have ha2 := (attrsT_len (fun _ => true) plainS (l ++ r) false).2
              generalize attrsT (fun _ => true) plainS l false = a at *
              generalize attrsT (fun _ => true) plainS (l ++ r) false = A at *
              simp only [List.length_append] at ha2
              have hn := ih l.length (by omega) a.2 A.2 f F ha1 (by omega) (by omega) ha
              have hn1 := nodesT_len f a.2.1 a.2.2
              have hn2 := nodesT_len F A.2.1 A.2.2
              generalize nodesT f a.2.1 a.2.2 = n at *
              generalize nodesT F A.2.1 A.2.2 = N at *
              have hc := sim_take 93 hn
              have hc1 := takeR_len 93 n.2.1 n.2.2
              have hc2 := takeR_len 93 N.2.1 N.2.2
              generalize takeR 93 n.2.1 n.2.2 = c at *
              generalize takeR 93 N.2.1 N.2.2 = C at *
              exact ih l.length (by omega) c C f F (by omega) (by omega) (by omega) hc
            · rw [nodesR_text q1 q2, nodesR_text (by rw [sg]; exact q1) (by rw [sg]; exact q2)]
              have ha : Sim r (textR (t :: l)).2 (textR (t :: l ++ r)).2 := sim_text q2
              have ha1 := textR_len q2
              have ha2 := textR_len (l := t :: l ++ r) (by rw [sg]; exact q2)
              generalize textR (t :: l) = a at *
              generalize textR (t :: l ++ r) = A at *
              simp only [List.length_append, List.length_cons] at ha1 ha2
              exact ih l.length (by omega) a.2 A.2 f F (by omega) (by omega) (by omega) ha
            · rw [nodesR_box q1 q2 q3, nodesR_box (by rw [sg]; exact q1) (by rw [sg]; exact q2) (by rw [sg]; exact q3)]
              simp only [tl, List.tail_cons]
              have ha : Sim r (boxR 125 l false).2.2 (boxR 125 (l ++ r) false).2.2 := sim_box (x := (l, false)) (y := (l ++ r, false)) 125 (.inl ⟨rfl, rfl⟩)
              have ha1 := boxR_len 125 l false
              have ha2 := boxR_len 125 (l ++ r) false
              generalize boxR 125 l false = a at *
              generalize boxR 125 (l ++ r) false = A at *
              simp only [List.length_append] at ha2
              exact ih l.length (by omega) a.2.2 A.2.2 f F (by omega) (by omega) (by omega) ha
            · rw [nodesR_float q1 q2 q3 q4, nodesR_float (by rw [sg]; exact q1) (by rw [sg]; exact q2) (by rw [sg]; exact q3) (by rw [sg]; exact q4)]
              have ha : Sim r (floatR (t :: l) false).2 (floatR (t :: l ++ r) false).2 := sim_float q4
              have ha1 := floatR_len q4
              have ha2 := floatR_len (l := t :: l ++ r) (by rw [sg]; exact q4)
              generalize floatR (t :: l) false = a at *
              generalize floatR (t :: l ++ r) false = A at *
              simp only [List.length_append, List.length_cons] at ha1 ha2
              exact ih l.length (by omega) a.2 A.2 f F (by omega) (by omega) (by omega) ha
            · rw [nodesR_none q1 q2 q3 q4, nodesR_none (by rw [sg]; exact q1) (by rw [sg]; exact q2) (by rw [sg]; exact q3) (by rw [sg]; exact q4)]
              exact .inl ⟨rfl, rfl⟩
      · exact absurd g1 h0
/-- what is read up to a place, cut there, is read to its end -/
theorem nodes_cut {l r : List Tk} {t : Tk} {f F : Nat} (hf : l.length ≤ f) (hF : (l ++ t :: r).length ≤ F) (h : (nodesR F (l ++ t :: r)).2.1 = t :: r) : (nodesR f l).2.1 = [] := by
  have hs := sim_nodes (t :: r) l.length (l, false) (l ++ t :: r, false) f F (Nat.le_refl _) hf hF (.inl ⟨rfl, rfl⟩)
  have e0 : nodesT f l false = nodesR f l := rfl
  have e1 : nodesT F (l ++ t :: r) false = nodesR F (l ++ t :: r) := rfl
  simp only [e0, e1] at hs
  rw [show (nodesR F (l ++ t :: r)).2 = (t :: r, (nodesR F (l ++ t :: r)).2.2) from Prod.ext h rfl] at hs
  rcases hs with ⟨g1, _⟩ | ⟨g1, _⟩
  · simp only at g1
    have := congrArg List.length g1
    simp only [List.length_append] at this
    exact List.length_eq_zero_iff.1 (by omega)
  · exact g1
end Go.Vc
namespace Go.Vc
theorem take_ok {c : Int} {l r : List Tk} {w : Bool} (h : (takeR c l w).2 = false) : takeR c (l ++ r) w = ((takeR c l w).1 ++ r, false) ∧ l ≠ [] ∧ w = false := by
  unfold takeR at h ⊢
  split at h
  · cases h
  · rename_i hn
    rw [if_neg hn]
    simp only [Bool.or_eq_true, Bool.not_eq_true', not_or, Bool.not_eq_true] at hn
    obtain ⟨rfl, hs⟩ := hn
    cases l with
    | nil => simp [signB] at hs
    | cons t l =>
      have hs : signB c (t :: l) = true := by simpa using hs
      rw [if_neg (by rw [sign_app, hs]; simp)]
      exact ⟨rfl, by simp, rfl⟩
theorem count_ok {a b : Int} {l r : List Tk} {w : Bool} (h : (countR a b l w).2.2 = false) : countR a b (l ++ r) w = ((countR a b l w).1, (countR a b l w).2.1 ++ r, false) ∧ l ≠ [] ∧ w = false := by
  cases l with
  | nil => simp [countR] at h
  | cons t l =>
    rw [countR] at h ⊢
    split at h
    · cases h
    · rename_i hn
      rw [if_neg hn]
      rw [List.cons_append, countR, ← List.cons_append, num_app, if_neg hn]
      refine ⟨rfl, by simp, ?_⟩
      cases w with
      | false => rfl
      | true => simp at hn
theorem nodesT_false (f : Nat) (l : List Tk) : nodesT f l false = nodesR f l := rfl
end Go.Vc
namespace Go.Vc
theorem ofI_bad_lt (s : List UInt8) : ∀ (m i : Nat) (c : Bool), s.length - i ≤ m → ∀ p, ofI s c i = .bad p → p < s.length := by
  intro m
  induction m with
  | zero => intro i c hm l h; rw [ofI_end (by omega)] at h; cases h
  | succ m ih =>
    intro i c hm l h
    by_cases hlt : i < s.length
    · by_cases hz : sizeR s i = 0
      · rw [ofI_bad hlt hz] at h; cases h; exact hlt
      · have cons : ∀ (r : Res) (t : Tk), r.cons t = .bad l → r = .bad l := fun r t hr => by
          cases r with
          | ok l' => cases hr
          | bad q => cases hr; rfl
        cases c
        · by_cases h35 : byt s i = 35
          · rw [ofI_hash hlt hz h35] at h
            exact ih _ _ (by omega) l h
          · by_cases hw : byt s i = 32 ∨ byt s i = 9 ∨ byt s i = 10
            · rw [ofI_white hlt hz hw] at h
              exact ih _ _ (by omega) l h
            · by_cases hd : 48 ≤ byt s i ∧ byt s i ≤ 57
              · have hdp := digLen_pos hd.1 hd.2
                rw [ofI_num hlt hz hd] at h
                split at h
                · cases h; exact hlt
                · exact ih _ _ (by omega) l (cons _ _ h)
              · rw [ofI_sign hlt hz (by omega)] at h
                exact ih _ _ (by omega) l (cons _ _ h)
        · rw [ofI_com hlt hz] at h
          exact ih _ _ (by omega) l h
    · rw [ofI_end hlt] at h; cases h
theorem ofI_at (s : List UInt8) : ∀ (m i : Nat) (c : Bool), s.length - i ≤ m → ∀ l, ofI s c i = .ok l → ∀ t ∈ l, (i : Int) ≤ t.at' ∧ t.at' < s.length := by
  intro m
  induction m with
  | zero => intro i c hm l h; rw [ofI_end (by omega)] at h; cases h; simp
  | succ m ih =>
    intro i c hm l h t ht
    by_cases hlt : i < s.length
    · by_cases hz : sizeR s i = 0
      · rw [ofI_bad hlt hz] at h; cases h
      · have cons : ∀ (r : Res) (t : Tk), r.cons t = .ok l → ∃ l', r = .ok l' ∧ l = t :: l' := fun r t hr => by
          cases r with
          | ok l' => exact ⟨l', rfl, by simpa [Res.cons] using hr.symm⟩
          | bad => cases hr
        cases c
        · by_cases h35 : byt s i = 35
          · rw [ofI_hash hlt hz h35] at h
            have := ih _ _ (by omega) l h t ht; omega
          · by_cases hw : byt s i = 32 ∨ byt s i = 9 ∨ byt s i = 10
            · rw [ofI_white hlt hz hw] at h
              have := ih _ _ (by omega) l h t ht; omega
            · by_cases hd : 48 ≤ byt s i ∧ byt s i ≤ 57
              · have hdp := digLen_pos hd.1 hd.2
                rw [ofI_num hlt hz hd] at h
                split at h
                · cases h
                · obtain ⟨l', h1, rfl⟩ := cons _ _ h
                  rcases List.mem_cons.1 ht with rfl | ht
                  · simp only; omega
                  · have := ih _ _ (by omega) l' h1 t ht; omega
              · rw [ofI_sign hlt hz (by omega)] at h
                obtain ⟨l', h1, rfl⟩ := cons _ _ h
                rcases List.mem_cons.1 ht with rfl | ht
                · simp only; omega
                · have := ih _ _ (by omega) l' h1 t ht; omega
        · rw [ofI_com hlt hz] at h
          have := ih _ _ (by omega) l h t ht; omega
    · rw [ofI_end hlt] at h; cases h; cases ht
theorem digLen_take : ∀ (l : List UInt8) (d : Nat), digLen l ≤ d → digLen (l.take d) = digLen l
  | [], d, _ => by simp
  | b :: l, 0, h => by
    have : digLen (b :: l) = 0 := by omega
    rw [this]; simp [digLen]
  | b :: l, d + 1, h => by
    simp only [List.take_succ_cons, digLen] at h ⊢
    split
    · rename_i hb
      rw [if_pos hb] at h
      rw [digLen_take l d (by omega)]
    · rfl
theorem cons_ok {r : Res} {t : Tk} {l : List Tk} (h : r.cons t = .ok l) : ∃ l', r = .ok l' ∧ l = t :: l' := by
  cases r with
  | ok l' => exact ⟨l', rfl, by simpa [Res.cons] using h.symm⟩
  | bad => cases h
/-- a script cut where a token begins -/
theorem of_pre (s : List UInt8) (e : Nat) (t : Tk) (r : List Tk) (he : t.at' = e) : ∀ (m i : Nat) (c : Bool) (pre : List Tk), s.length - i ≤ m → i ≤ e → ofI s c i = .ok (pre ++ t :: r) → ofI (s.take e) c i = .ok pre := by
  intro m
  induction m with
  | zero => intro i c pre hm hi h; rw [ofI_end (by omega)] at h; simp at h
  | succ m ih =>
    intro i c pre hm hi h
    by_cases hlt : i < s.length
    · have hat := ofI_at s
      have hz : sizeR s i ≠ 0 := fun g => by rw [ofI_bad hlt g] at h; cases h
      have hmem : t ∈ pre ++ t :: r := by simp
      have hle := sizeR_le hlt
      have hsa := @sizeR_ascii s i
      -- the next place
      have next : ∀ (k : Nat) (c' : Bool) (pre' : List Tk), 0 < k → i + k ≤ s.length → ofI s c' (i + k) = .ok (pre' ++ t :: r) → i + k ≤ e ∧ ofI (s.take e) c' (i + k) = .ok pre' := by
        intro k c' pre' hk hkl hh
        have h1 := (hat (s.length - (i + k)) (i + k) c' (Nat.le_refl _) _ hh t (by simp)).1
        have h2 : i + k ≤ e := by omega
        exact ⟨h2, ih (i + k) c' pre' (by omega) h2 hh⟩
      have hel : e ≤ s.length := by
        have := (hat (s.length - i) i c (Nat.le_refl _) _ h t hmem).2
        omega
      have hlt' : i < e → i < (s.take e).length := fun g => by simp; omega
      have hby : i < e → byt (s.take e) i = byt s i := fun g => by rw [byt_take, if_pos g]
      have stop : i = e → pre = [] → ofI (s.take e) c i = .ok pre := by
        intro g1 g2
        rw [ofI_end (by simp; omega), g2]
      have tok : ∀ (x : Tk) (rest : Res) , rest.cons x = .ok (pre ++ t :: r) → x.at' = i → (pre = [] ∧ i = e) ∨ ∃ pre', pre = x :: pre' ∧ rest = .ok (pre' ++ t :: r) := by
        intro x rest hx hxi
        obtain ⟨l', g1, g2⟩ := cons_ok hx
        cases pre with
        | nil =>
          simp only [List.nil_append, List.cons.injEq] at g2
          left
          exact ⟨rfl, by rw [← g2.1] at hxi; omega⟩
        | cons y pre' =>
          simp only [List.cons_append, List.cons.injEq] at g2
          right
          exact ⟨pre', by rw [g2.1], by rw [g1, ← g2.2]⟩
      cases c
      · by_cases h35 : byt s i = 35
        · rw [ofI_hash hlt hz h35] at h
          obtain ⟨g1, g2⟩ := next 1 true pre (by omega) (by omega) h
          rw [ofI_hash (hlt' (by omega)) (by rw [sizeR_take hz (by rw [hsa (by omega)]; exact g1)]; exact hz) (by rw [hby (by omega)]; exact h35)]
          exact g2
        · by_cases hw : byt s i = 32 ∨ byt s i = 9 ∨ byt s i = 10
          · rw [ofI_white hlt hz hw] at h
            obtain ⟨g1, g2⟩ := next 1 false pre (by omega) (by omega) h
            rw [ofI_white (hlt' (by omega)) (by rw [sizeR_take hz (by rw [hsa (by omega)]; exact g1)]; exact hz) (by rw [hby (by omega)]; exact hw)]
            exact g2
          · by_cases hd : 48 ≤ byt s i ∧ byt s i ≤ 57
            · have hdp := digLen_pos hd.1 hd.2
              have hde := digs_end (s := s) (i := i) (by omega)
              rw [ofI_num hlt hz hd] at h
              split at h
              · cases h
              · rename_i hnb
                rcases tok _ _ h rfl with ⟨q1, q2⟩ | ⟨pre', rfl, q2⟩
                · exact stop q2 q1
                · obtain ⟨g1, g2⟩ := next _ false pre' hdp hde q2
                  have hdl : digLen ((s.take e).drop i) = digLen (s.drop i) := by
                    rw [List.drop_take]
                    exact digLen_take _ _ (by omega)
                  have hda : digsAt (s.take e) i = digsAt s i := by
                    unfold digsAt
                    rw [hdl, List.drop_take, List.take_take, Nat.min_eq_left (by omega)]
                  rw [ofI_num (hlt' (by omega)) (by rw [sizeR_take hz (by rw [hsa (by omega)]; omega)]; exact hz) (by rw [hby (by omega)]; exact hd), hda, if_neg hnb, hdl, g2]
                  rfl
            · rw [ofI_sign hlt hz (by omega)] at h
              rcases tok _ _ h rfl with ⟨q1, q2⟩ | ⟨pre', rfl, q2⟩
              · exact stop q2 q1
              · obtain ⟨g1, g2⟩ := next _ false pre' (by omega) hle q2
                have hst := sizeR_take hz g1
                rw [ofI_sign (hlt' (by omega)) (by rw [hst]; exact hz) (by rw [hby (by omega)]; omega), hst, runeR_take g1, g2]
                rfl
      · rw [ofI_com hlt hz] at h
        obtain ⟨g1, g2⟩ := next _ _ pre (by omega) hle h
        have hst := sizeR_take hz g1
        rw [ofI_com (hlt' (by omega)) (by rw [hst]; exact hz), hst, hby (by omega)]
        exact g2
    · rw [ofI_end hlt] at h; simp at h
theorem rest_suffix_take (c : Int) (l : List Tk) (w : Bool) : ∃ p, l = p ++ (takeR c l w).1 := by
  unfold takeR
  split
  · exact ⟨[], rfl⟩
  · cases l with
    | nil => exact ⟨[], rfl⟩
    | cons t l => exact ⟨[t], rfl⟩
theorem rest_suffix_count (a b : Int) (l : List Tk) (w : Bool) : ∃ p, l = p ++ (countR a b l w).2.1 := by
  cases l with
  | nil => exact ⟨[], rfl⟩
  | cons t l =>
    rw [countR]
    split
    · exact ⟨[], rfl⟩
    · exact ⟨[t], rfl⟩
theorem rest_suffix_nums : ∀ (l : List Tk), ∃ p, l = p ++ (numsR l).2
  | [] => ⟨[], rfl⟩
  | t :: l => by
    rw [numsR]
    split
    · obtain ⟨p, hp⟩ := rest_suffix_nums l
      exact ⟨t :: p, by rw [List.cons_append, ← hp]⟩
    · exact ⟨[], rfl⟩
theorem suf_trans {l m n : List Tk} (h1 : ∃ p, l = p ++ m) (h2 : ∃ p, m = p ++ n) : ∃ p, l = p ++ n := by
  obtain ⟨p, rfl⟩ := h1
  obtain ⟨q, rfl⟩ := h2
  exact ⟨p ++ q, by simp⟩
theorem rest_suffix_attrs : ∀ (m : Nat) (l : List Tk) (av : Int → Bool) (s : List Int) (w : Bool), l.length ≤ m → ∃ p, l = p ++ (attrsT av s l w).2.1 := by
  intro m
  induction m with
  | zero =>
    intro l av s w hm
    have h0 : l = [] := List.length_eq_zero_iff.1 (by omega)
    subst h0
    exact ⟨[], by rw [len0_nil (attrsT_len av s [] w).2]; rfl⟩
  | succ m ih =>
    intro l av s w hm
    cases w with
    | true => exact ⟨[], rfl⟩
    | false =>
      cases l with
      | nil => exact ⟨[], by rw [len0_nil (attrsT_len av s [] false).2]; rfl⟩
      | cons t l =>
        by_cases h1 : t.kind = 1
        · cases h3 : av t.sign with
          | false =>
            refine ⟨[], ?_⟩
            rw [attrsT, if_neg (by simp), attrsR, if_pos h1, h3]
            rfl
          | true =>
            cases h4 : spec t.sign with
            | none =>
              refine ⟨[], ?_⟩
              rw [attrsT, if_neg (by simp), attrsR, if_pos h1, h3]
              simp only [if_true, h4, List.nil_append]
            | some q =>
              obtain ⟨k, a, b⟩ := q
              rw [attrsT, if_neg (by simp), attrsT_step h1 h3 h4]
              have hl := count_len a b l false
              simp only [List.length_cons] at hm
              obtain ⟨p, hp⟩ := suf_trans (rest_suffix_count a b l false) (ih _ (fun c => if c = t.sign then false else av c) (s.set k (countR a b l false).1) (countR a b l false).2.2 (by omega))
              exact ⟨t :: p, by rw [List.cons_append, ← hp]⟩
        · refine ⟨[], ?_⟩
          rw [attrsT, if_neg (by simp), attrsR, if_neg h1]
          rfl
theorem tail_suffix (l : List Tk) : ∃ p, l = p ++ l.tail := by
  cases l with
  | nil => exact ⟨[], rfl⟩
  | cons t l => exact ⟨[t], rfl⟩
theorem rest_suffix_box (e : Int) (l : List Tk) (w : Bool) : ∃ p, l = p ++ (boxR e l w).2.2.1 :=
  suf_trans (rest_suffix_count 1 MX l w) (suf_trans (rest_suffix_count _ _ _ _) (rest_suffix_take e _ _))
theorem rest_suffix_text (l : List Tk) : ∃ p, l = p ++ (textR l).2.1 :=
  suf_trans (rest_suffix_take 40 l false) (suf_trans (rest_suffix_count _ _ _ _) (suf_trans (rest_suffix_count _ _ _ _) (suf_trans (rest_suffix_count _ _ _ _) (suf_trans (rest_suffix_nums _) (rest_suffix_take 41 _ _)))))
theorem rest_suffix_float (l : List Tk) : ∃ p, l = p ++ (floatR l false).2.1 :=
  suf_trans (rest_suffix_take 60 l false) (suf_trans (rest_suffix_take _ _ _) (rest_suffix_box 62 _ _))
theorem rest_suffix : ∀ (f : Nat) (l : List Tk) (w : Bool), ∃ p, l = p ++ (nodesT f l w).2.1
  | f, l, true => ⟨[], rfl⟩
  | 0, l, false => ⟨[], rfl⟩
  | f + 1, l, false => by
    rw [nodesT_false]
    rcases sign_cases l with q | ⟨q1, q2⟩ | ⟨q1, q2, q3⟩ | ⟨q1, q2, q3, q4⟩ | ⟨q1, q2, q3, q4⟩
    · rw [nodesR_block q]
      exact suf_trans (tail_suffix l) (suf_trans (rest_suffix_attrs _ _ _ _ _ (Nat.le_refl _)) (suf_trans (rest_suffix f _ _) (suf_trans (rest_suffix_take 93 _ _) (rest_suffix f _ _))))
    · rw [nodesR_text q1 q2]
      exact suf_trans (rest_suffix_text l) (rest_suffix f _ _)
    · rw [nodesR_box q1 q2 q3]
      exact suf_trans (tail_suffix l) (suf_trans (rest_suffix_box 125 _ _) (rest_suffix f _ _))
    · rw [nodesR_float q1 q2 q3 q4]
      exact suf_trans (rest_suffix_float l) (rest_suffix f _ _)
    · rw [nodesR_none q1 q2 q3 q4]
      exact ⟨[], rfl⟩
/-- a script that may not be: nothing, and where -/
theorem readR_bad {s : List UInt8} (h : (readR s).2.2 ≠ 0) : (readR s).1 = [] ∧ (readR s).2.2 = 1 ∧ 0 ≤ (readR s).2.1 ∧ (readR s).2.1 ≤ s.length := by
  unfold readR at h ⊢
  cases hl : ofI s false 0 with
  | bad p =>
    have := ofI_bad_lt s _ 0 false (Nat.le_refl _) p hl
    exact ⟨rfl, rfl, by simp only; omega, by simp only; omega⟩
  | ok l =>
    rw [hl] at h
    simp only at h ⊢
    have hat := ofI_at s _ 0 false (Nat.le_refl _) l hl
    obtain ⟨p, hp⟩ := rest_suffix l.length l false
    rw [nodesT_false] at hp
    cases hn : (nodesR l.length l).2.1 with
    | cons t r =>
      rw [hn] at hp
      have := hat t (by rw [hp]; simp)
      simp only
      exact ⟨trivial, trivial, by omega, by omega⟩
    | nil =>
      rw [hn] at h
      simp only at h ⊢
      split
      · simp only
        exact ⟨trivial, trivial, by omega, by omega⟩
      · rename_i hw
        rw [if_neg hw] at h
        exact absurd rfl h
theorem readR_ok {s : List UInt8} (h : (readR s).2.2 = 0) : (readR s).2.1 = 0 ∧ ∃ l, ofI s false 0 = .ok l ∧ (nodesR l.length l).2 = ([], false) ∧ (readR s).1 = toldL (nodesR l.length l).1 := by
  unfold readR at h ⊢
  cases hl : ofI s false 0 with
  | bad p => rw [hl] at h; simp at h
  | ok l =>
    rw [hl] at h
    simp only at h ⊢
    cases hn : (nodesR l.length l).2.1 with
    | cons t r => rw [hn] at h; simp at h
    | nil =>
      rw [hn] at h
      simp only at h ⊢
      cases hw : (nodesR l.length l).2.2 with
      | true => rw [hw] at h; simp at h
      | false => exact ⟨rfl, l, rfl, Prod.ext hn hw, rfl⟩
/-- cut ahead of that place -/
theorem readR_cut {s : List UInt8} {l : List Tk} (hl : ofI s false 0 = .ok l) (h : (readR s).2.2 ≠ 0) : (readR (s.take (readR s).2.1.toNat)).2.2 = 0 ∨ (readR (s.take (readR s).2.1.toNat)).2.1 = (readR s).2.1 := by
  have hb := readR_bad h
  cases hn : (nodesR l.length l).2.1 with
  | nil =>
    have : (readR s).2.1 = s.length := by
      unfold readR at h ⊢
      rw [hl] at h ⊢
      simp only [hn] at h ⊢
      cases hw : (nodesR l.length l).2.2 with
      | true => rfl
      | false => rw [hw] at h; simp at h
    right
    rw [this, Int.toNat_natCast, List.take_length, this]
  | cons t r =>
    have hp : (readR s).2.1 = t.at' := by unfold readR; rw [hl]; simp only [hn]
    obtain ⟨pre, hpre⟩ := rest_suffix l.length l false
    rw [nodesT_false, hn] at hpre
    have hat := ofI_at s _ 0 false (Nat.le_refl _) l hl t (by rw [hpre]; simp)
    have he : t.at' = (t.at'.toNat : Nat) := by omega
    have hcut := of_pre s t.at'.toNat t r he s.length 0 false pre (by omega) (by omega) (by rw [hl, hpre])
    rw [hp]
    have hnil := nodes_cut (l := pre) (r := r) (t := t) (f := pre.length) (F := l.length) (Nat.le_refl _) (by rw [← hpre]; exact Nat.le_refl _) (by rw [← hpre]; exact hn)
    unfold readR
    rw [hcut]
    simp only [hnil]
    cases hw : (nodesR pre.length pre).2.2 with
    | true => right; simp only [if_true, List.length_take]; omega
    | false => left; rfl
end Go.Vc
namespace Go.Vc
theorem spec_some {c : Int} {q : Nat × Int × Int} (h : spec c = some q) : (∃ b ∈ lettersB, c = (b.toNat : Int)) ∧ limR c = (q.2.1, q.2.2) := by
  have ex : ∀ b : UInt8, b ∈ lettersB → spec (b.toNat : Int) = some q → c = (b.toNat : Int) → limR (b.toNat : Int) = (q.2.1, q.2.2) → (∃ b ∈ lettersB, c = (b.toNat : Int)) ∧ limR c = (q.2.1, q.2.2) := fun b hb _ e hl => ⟨⟨b, hb, e⟩, by rw [e]; exact hl⟩
  by_cases h0 : c = 99
  · subst h0; refine ex 99 (by decide) h rfl ?_; cases h; rfl
  by_cases h1 : c = 73
  · subst h1; refine ex 73 (by decide) h rfl ?_; cases h; rfl
  by_cases h2 : c = 65
  · subst h2; refine ex 65 (by decide) h rfl ?_; cases h; rfl
  by_cases h3 : c = 66
  · subst h3; refine ex 66 (by decide) h rfl ?_; cases h; rfl
  by_cases h4 : c = 104
  · subst h4; refine ex 104 (by decide) h rfl ?_; cases h; rfl
  by_cases h5 : c = 119
  · subst h5; refine ex 119 (by decide) h rfl ?_; cases h; rfl
  by_cases h6 : c = 111
  · subst h6; refine ex 111 (by decide) h rfl ?_; cases h; rfl
  by_cases h7 : c = 105
  · subst h7; refine ex 105 (by decide) h rfl ?_; cases h; rfl
  by_cases h8 : c = 113
  · subst h8; refine ex 113 (by decide) h rfl ?_; cases h; rfl
  by_cases h9 : c = 112
  · subst h9; refine ex 112 (by decide) h rfl ?_; cases h; rfl
  by_cases h10 : c = 110
  · subst h10; refine ex 110 (by decide) h rfl ?_; cases h; rfl
  by_cases h11 : c = 109
  · subst h11; refine ex 109 (by decide) h rfl ?_; cases h; rfl
  exfalso
  rw [spec, if_neg h0, if_neg h1, if_neg h2, if_neg h3, if_neg h4, if_neg h5, if_neg h6, if_neg h7, if_neg h8, if_neg h9, if_neg h10, if_neg h11] at h
  cases h
end Go.Vc
namespace Go.Vc
open Go.Proofs
section
variable {P : Program} {n : Nat} {st : St} {Q : St → Prop} {k : List It}
end
/-- arguments of which more is known -/
theorem Contract.args {P : Program} {f : FuncId} {args args' : List V} {σ : Store} {Post : V → Store → Prop} (hw : WkL σ σ args args') (h : Contract P f args' σ Post) : Contract P f args σ Post :=
  ⟨h.1, fun μ w vals hs hr => h.2 μ w vals hs (WkL.all hs hw hr)⟩
end Go.Vc
namespace Go.Vc
theorem nums_len : ∀ (l : List Tk), (numsR l).1.length + (numsR l).2.length = l.length
  | [] => rfl
  | t :: r => by
    have := nums_len r
    rw [numsR]
    split
    · simp only [List.length_cons]; omega
    · simp
theorem text_words {l : List Tk} (h : signB 40 l = true) : ((textR l).1.drop 2).length ≤ l.length := by
  unfold textR
  simp only
  obtain ⟨e, hl⟩ := takeR_yes h
  rw [e]
  simp only
  have h1 := count_len 1 MX l.tail false
  generalize countR 1 MX l.tail false = c1 at *
  have h2 := count_len 0 MX c1.2.1 c1.2.2
  generalize countR 0 MX c1.2.1 c1.2.2 = c2 at *
  have h3 := count_len 1 MX c2.2.1 c2.2.2
  generalize countR 1 MX c2.2.1 c2.2.2 = c3 at *
  have h4 := nums_len c3.2.1
  simp only [List.cons_append, List.nil_append, List.drop_succ_cons, List.drop_zero, List.length_cons]
  omega
theorem told_words : ∀ (f : Nat) (l : List Tk) (w : Bool), ∀ x ∈ toldL (nodesT f l w).1, x.words.length ≤ l.length
  | f, l, true => by intro x hx; cases hx
  | 0, l, false => by intro x hx; cases hx
  | f + 1, l, false => by
    intro x hx
    rw [nodesT_false] at hx
    rcases sign_cases l with q | ⟨q1, q2⟩ | ⟨q1, q2, q3⟩ | ⟨q1, q2, q3, q4⟩ | ⟨q1, q2, q3, q4⟩
    · rw [nodesR_block q] at hx
      have h0 := (takeR_yes q).2
      have h1 := (attrsT_len (fun _ => true) plainS l.tail false).2
      generalize attrsT (fun _ => true) plainS l.tail false = a at *
      have h2 := nodesT_len f a.2.1 a.2.2
      have i1 := told_words f a.2.1 a.2.2
      generalize nodesT f a.2.1 a.2.2 = n at *
      have h3 := takeR_len 93 n.2.1 n.2.2
      generalize takeR 93 n.2.1 n.2.2 = c at *
      have i2 := told_words f c.1 c.2
      rw [toldL, toldS, List.cons_append, List.mem_cons, List.mem_append] at hx
      rcases hx with rfl | hx | hx
      · simp [ndS]
      · have := i1 x hx; omega
      · have := i2 x hx; omega
    · rw [nodesR_text q1 q2] at hx
      have h0 := textR_len q2
      have h1 := text_words q2
      generalize textR l = a at *
      have i2 := told_words f a.2.1 a.2.2
      rw [toldL, toldS, List.cons_append, List.mem_cons, List.nil_append] at hx
      rcases hx with rfl | hx
      · exact h1
      · have := i2 x hx; omega
    · rw [nodesR_box q1 q2 q3] at hx
      have h0 := (takeR_yes q3).2
      have h1 := boxR_len 125 l.tail false
      generalize boxR 125 l.tail false = a at *
      have i2 := told_words f a.2.2.1 a.2.2.2
      rw [toldL, toldS, List.cons_append, List.mem_cons, List.nil_append] at hx
      rcases hx with rfl | hx
      · simp [ndS]
      · have := i2 x hx; omega
    · rw [nodesR_float q1 q2 q3 q4] at hx
      have h0 := floatR_len q4
      have hf : ∃ w h d, (floatR l false).1 = .float w h d := ⟨_, _, _, rfl⟩
      obtain ⟨w, h, d, hf⟩ := hf
      rw [hf] at hx
      generalize floatR l false = a at *
      have i2 := told_words f a.2.1 a.2.2
      rw [toldL, toldS, List.cons_append, List.mem_cons, List.nil_append] at hx
      rcases hx with rfl | hx
      · simp [ndS]
      · have := i2 x hx; omega
    · rw [nodesR_none q1 q2 q3 q4] at hx
      cases hx
theorem readR_fine {s : List UInt8} {n : Nat} (hs : s.length ≤ n) : (readR s).1.length ≤ n ∧ ∀ x ∈ (readR s).1, x.words.length ≤ n := by
  by_cases h : (readR s).2.2 = 0
  · obtain ⟨_, l, hl, hn, ht⟩ := readR_ok h
    have hll := ofI_len hl
    have hw := (nodesR_wf l.length l).2
    have hx := told_words l.length l false
    rw [nodesT_false] at hx
    rw [ht]
    exact ⟨by omega, fun x hm => by have := hx x hm; omega⟩
  · rw [(readR_bad h).1]
    exact ⟨by simp, by simp⟩
def loK (k : Nat) : Int := if k = 5 ∨ k = 6 then 1 else 0
def hiK (k : Nat) : Int := if k = 8 ∨ k = 9 then 4 else if k = 10 then 1 else if k = 11 then 3 else MX
def okL (s : List Int) : Prop := ∀ k v, s[k]? = some v → loK k ≤ v ∧ v ≤ hiK k
theorem okL_plain : okL plainS := by
  intro k v h
  have hk : k < 12 := (List.getElem?_eq_some_iff.1 h).1
  have : ∀ k, k < 12 → ∀ v, plainS[k]? = some v → loK k ≤ v ∧ v ≤ hiK k := by
    intro k hk
    match k, hk with
    | 0, _ | 1, _ | 2, _ | 3, _ | 4, _ | 5, _ | 6, _ | 7, _ | 8, _ | 9, _ | 10, _ | 11, _ =>
      intro v h
      simp only [plainS, List.getElem?_cons_zero, List.getElem?_cons_succ, Option.some.injEq] at h
      subst h
      decide
  exact this k hk v h
theorem spec_ok {c : Int} {k : Nat} {a b : Int} (h : spec c = some (k, a, b)) : loK k ≤ a ∧ b ≤ hiK k := by
  have h0 := (spec_some h).1
  obtain ⟨u, hu, rfl⟩ := h0
  have hb : u = 109 ∨ u = 110 ∨ u = 112 ∨ u = 113 ∨ u = 105 ∨ u = 111 ∨ u = 119 ∨ u = 104 ∨ u = 66 ∨ u = 65 ∨ u = 73 ∨ u = 99 := by simpa [lettersB] using hu
  rcases hb with rfl | rfl | rfl | rfl | rfl | rfl | rfl | rfl | rfl | rfl | rfl | rfl <;> (cases h; decide)
theorem numB_is {a b : Int} {t : Tk} {r : List Tk} (h : numB a b (t :: r) = true) : a ≤ t.n ∧ t.n ≤ b := by
  simp only [numB, Bool.and_eq_true, decide_eq_true_eq] at h
  omega
theorem count_is {a b : Int} {l : List Tk} {w : Bool} (h : (countR a b l w).2.2 = false) : a ≤ (countR a b l w).1 ∧ (countR a b l w).1 ≤ b := by
  cases l with
  | nil => simp [countR] at h
  | cons t r =>
    rw [countR] at h ⊢
    split at h
    · cases h
    · rename_i hn
      rw [if_neg hn]
      simp only [Bool.or_eq_true, Bool.not_eq_true', not_or, Bool.not_eq_true, Bool.not_eq_false] at hn
      exact numB_is hn.2
theorem okL_set {s : List Int} (h : okL s) {k : Nat} {v : Int} (hv : loK k ≤ v ∧ v ≤ hiK k) : okL (s.set k v) := by
  intro j u hu
  rw [List.getElem?_set] at hu
  split at hu
  · rename_i e
    subst e
    split at hu
    · simp only [Option.some.injEq] at hu; subst hu; exact hv
    · cases hu
  · exact h j u hu
theorem attrs_okL : ∀ (m : Nat) (l : List Tk) (av : Int → Bool) (s : List Int) (w : Bool), l.length ≤ m → okL s → (attrsT av s l w).2.2 = false → okL (attrsT av s l w).1 := by
  intro m
  induction m with
  | zero =>
    intro l av s w hm hs h
    have h0 : l = [] := List.length_eq_zero_iff.1 (by omega)
    subst h0
    cases w with
    | true => cases h
    | false => exact hs
  | succ m ih =>
    intro l av s w hm hs h
    cases w with
    | true => cases h
    | false =>
      cases l with
      | nil => exact hs
      | cons t l =>
        by_cases h1 : t.kind = 1
        · cases h3 : av t.sign with
          | false =>
            rw [attrsT, if_neg (by simp), attrsR, if_pos h1, h3]
            exact hs
          | true =>
            cases h4 : spec t.sign with
            | none =>
              rw [attrsT, if_neg (by simp), attrsR, if_pos h1, h3]
              simp only [if_true, h4]
              exact hs
            | some q =>
              obtain ⟨k, a, b⟩ := q
              rw [attrsT, if_neg (by simp), attrsT_step h1 h3 h4] at h ⊢
              have hl := count_len a b l false
              simp only [List.length_cons] at hm
              have hc : (countR a b l false).2.2 = false := by
                cases hc : (countR a b l false).2.2 with
                | false => rfl
                | true => rw [hc] at h; cases h
              have hv := count_is hc
              have hk := spec_ok h4
              exact ih _ _ _ _ (by omega) (okL_set hs (by omega)) h
        · rw [attrsT, if_neg (by simp), attrsR, if_neg h1]
          exact hs
theorem styL_ok {s : List Int} (hl : s.length = 12) (h : okL s) : (styL s).ok = true := by
  match s, hl with
  | [x0, x1, x2, x3, x4, x5, x6, x7, x8, x9, x10, x11], _ =>
    have g0 := h 0 x0 rfl
    have g1 := h 1 x1 rfl
    have g2 := h 2 x2 rfl
    have g3 := h 3 x3 rfl
    have g4 := h 4 x4 rfl
    have g5 := h 5 x5 rfl
    have g6 := h 6 x6 rfl
    have g7 := h 7 x7 rfl
    have g8 := h 8 x8 rfl
    have g9 := h 9 x9 rfl
    have g10 := h 10 x10 rfl
    have g11 := h 11 x11 rfl
    simp [loK, hiK] at g0 g1 g2 g3 g4 g5 g6 g7 g8 g9 g10 g11
    have hMX : MX = 1099511627776 := rfl
    simp [styL, Sty.ok, isFrom, mx]
    omega
theorem box_is {e : Int} {l : List Tk} {w : Bool} (h : (boxR e l w).2.2.2 = false) : isFrom (boxR e l w).1 1 mx = true ∧ isFrom (boxR e l w).2.1 1 mx = true := by
  unfold boxR at h ⊢
  simp only at h ⊢
  have w3 : (countR 1 MX (countR 1 MX l w).2.1 (countR 1 MX l w).2.2).2.2 = false := (take_ok (r := []) h).2.2
  have w2 : (countR 1 MX l w).2.2 = false := (count_ok (r := []) w3).2.2
  have h1 := count_is w2
  have h2 := count_is w3
  have hMX : MX = 1099511627776 := rfl
  simp [isFrom, mx]
  omega
theorem nums_are : ∀ (l : List Tk), (numsR l).1.all (isFrom · 1 mx) = true
  | [] => rfl
  | t :: r => by
    rw [numsR]
    split
    · rename_i hn
      have := numB_is hn
      rw [List.all_cons, nums_are r]
      simp [isFrom, mx]
      omega
    · rfl
theorem text_is {l : List Tk} (h : (textR l).2.2 = false) : (ndS (.text (textR l).1)).ok = true := by
  unfold textR at h ⊢
  simp only at h ⊢
  obtain ⟨_, _, w5⟩ := take_ok (r := []) h
  obtain ⟨_, _, w4⟩ := count_ok (r := []) w5
  obtain ⟨_, _, w3⟩ := count_ok (r := []) w4
  have h1 := count_is w5
  have h2 := count_is w4
  have h3 := count_is w3
  have h4 := nums_are (countR 1 MX (countR 0 MX (countR 1 MX (takeR 40 l false).1 (takeR 40 l false).2).2.1 (countR 1 MX (takeR 40 l false).1 (takeR 40 l false).2).2.2).2.1
    (countR 0 MX (countR 1 MX (takeR 40 l false).1 (takeR 40 l false).2).2.1 (countR 1 MX (takeR 40 l false).1 (takeR 40 l false).2).2.2).2.2).2.1
  generalize (numsR _).1 = ws at *
  generalize (countR 1 MX (countR 0 MX (countR 1 MX (takeR 40 l false).1 (takeR 40 l false).2).2.1 (countR 1 MX (takeR 40 l false).1 (takeR 40 l false).2).2.2).2.1 (countR 0 MX (countR 1 MX (takeR 40 l false).1 (takeR 40 l false).2).2.1 (countR 1 MX (takeR 40 l false).1 (takeR 40 l false).2).2.2).2.2).1 = c3 at *
  generalize (countR 0 MX (countR 1 MX (takeR 40 l false).1 (takeR 40 l false).2).2.1 (countR 1 MX (takeR 40 l false).1 (takeR 40 l false).2).2.2).1 = c2 at *
  generalize (countR 1 MX (takeR 40 l false).1 (takeR 40 l false).2).1 = c1 at *
  simp only [ndS, List.cons_append, List.nil_append, List.getD_cons_zero, List.getD_cons_succ, List.drop_succ_cons, List.drop_zero, Nd.ok]
  simp only [List.all_cons, h4, List.length_cons]
  have hMX : MX = 1099511627776 := rfl
  simp [isFrom, mx]
  omega
theorem float_ok2 (w v d : Int) (hw : isFrom w 1 mx = true) (hv : isFrom v 1 mx = true) (hd : d = 1 ∨ d = 2) : (ndS (.float w v d)).ok = true := by
  rcases hd with rfl | rfl <;> (simp [ndS, Nd.ok, isFrom] at hw hv ⊢; exact ⟨hw, hv⟩)
theorem float_is {l : List Tk} (h : (floatR l false).2.2 = false) : ∃ w v d, (floatR l false).1 = .float w v d ∧ (ndS (.float w v d)).ok = true := by
  unfold floatR at h ⊢
  simp only at h ⊢
  have hb := box_is h
  refine ⟨_, _, _, rfl, float_ok2 _ _ _ hb.1 hb.2 ?_⟩
  split
  · exact .inr rfl
  · exact .inl rfl
theorem nodesT_wf (f : Nat) (c : RS) (h : (nodesT f c.1 c.2).2.2 = false) : c.2 = false := by
  cases hc : c.2 with
  | false => rfl
  | true => rw [hc] at h; cases h
theorem ok_size {x : Nd} (h : x.kind = 1) (n : Int) : ({ x with size := n } : Nd).ok = x.ok := by simp [Nd.ok, h]
/-- each node's numbers -/
theorem told_ok : ∀ (f : Nat) (l : List Tk) (w : Bool), (nodesT f l w).2.2 = false → ∀ x ∈ toldL (nodesT f l w).1, x.ok = true
  | f, l, true => by intro h; cases h
  | 0, l, false => by intro h x hx; cases hx
  | f + 1, l, false => by
    intro h x hx
    rw [nodesT_false] at hx h
    rcases sign_cases l with q | ⟨q1, q2⟩ | ⟨q1, q2, q3⟩ | ⟨q1, q2, q3, q4⟩ | ⟨q1, q2, q3, q4⟩
    · rw [nodesR_block q] at hx h
      have hal := (attrsT_len (fun _ => true) plainS l.tail false).1
      have hok := attrs_okL _ l.tail (fun _ => true) plainS false (Nat.le_refl _) okL_plain
      generalize attrsT (fun _ => true) plainS l.tail false = a at *
      have i1 := told_ok f a.2.1 a.2.2
      have wn := nodesT_wf f a.2
      generalize nodesT f a.2.1 a.2.2 = n at *
      have ht := take_ok (c := 93) (l := n.2.1) (r := []) (w := n.2.2)
      generalize takeR 93 n.2.1 n.2.2 = c at *
      have i2 := told_ok f c.1 c.2 h
      have wc := nodesT_wf f c h
      have wt := (ht wc).2.2
      rw [toldL, toldS, List.cons_append, List.mem_cons, List.mem_append] at hx
      rcases hx with rfl | hx | hx
      · rw [ok_size rfl]
        have hs := styL_ok (by rw [hal]; rfl) (hok (wn wt))
        simp [ndS, Nd.ok, hs]
      · exact i1 wt x hx
      · exact i2 x hx
    · rw [nodesR_text q1 q2] at hx h
      have hti := text_is (l := l)
      generalize textR l = a at *
      have i2 := told_ok f a.2.1 a.2.2 h
      have wc := nodesT_wf f a.2 h
      rw [toldL, toldS, List.cons_append, List.mem_cons, List.nil_append] at hx
      rcases hx with rfl | hx
      · exact hti wc
      · exact i2 x hx
    · rw [nodesR_box q1 q2 q3] at hx h
      have hbi := box_is (e := 125) (l := l.tail) (w := false)
      generalize boxR 125 l.tail false = a at *
      have i2 := told_ok f a.2.2.1 a.2.2.2 h
      have wc := nodesT_wf f a.2.2 h
      rw [toldL, toldS, List.cons_append, List.mem_cons, List.nil_append] at hx
      rcases hx with rfl | hx
      · obtain ⟨g1, g2⟩ := hbi wc
        simp [ndS, Nd.ok, g1, g2]
      · exact i2 x hx
    · rw [nodesR_float q1 q2 q3 q4] at hx h
      have hfi := float_is (l := l)
      generalize floatR l false = a at *
      have i2 := told_ok f a.2.1 a.2.2 h
      have wc := nodesT_wf f a.2 h
      obtain ⟨w, v, d, e, hk⟩ := hfi wc
      rw [e] at hx
      rw [toldL, toldS, List.cons_append, List.mem_cons, List.nil_append] at hx
      rcases hx with rfl | hx
      · exact hk
      · exact i2 x hx
    · rw [nodesR_none q1 q2 q3 q4] at hx
      cases hx
theorem rowsB_told : ∀ (m : Nat) (xs : List Shp) (pre post : List Nd), (toldL xs).length ≤ m → rowsB (pre ++ toldL xs ++ post) pre.length (pre.length + (toldL xs).length) = true := by
  intro m
  induction m with
  | zero =>
    intro xs pre post h
    have : (toldL xs).length = 0 := by omega
    rw [this]
    exact rowsB_nil _ _
  | succ m ih =>
    intro xs pre post h
    cases xs with
    | nil => simp only [toldL, List.length_nil, Nat.add_zero]; exact rowsB_nil _ _
    | cons x xs =>
      obtain ⟨hd, inner, ht, hsz, hk⟩ : ∃ (hd : Nd) (inner : List Shp), toldS x = hd :: toldL inner ∧ hd.size = 1 + ((toldL inner).length : Int) ∧ (hd.kind = 1 ∨ inner = []) := by
        cases x with
        | box w h => exact ⟨_, [], rfl, rfl, .inr rfl⟩
        | block s i => exact ⟨_, i, by rw [toldS], rfl, .inl rfl⟩
        | text ns => exact ⟨_, [], rfl, rfl, .inr rfl⟩
        | float w h d => exact ⟨_, [], rfl, rfl, .inr rfl⟩
      rw [toldL, ht] at h ⊢
      simp only [List.cons_append, List.length_cons, List.length_append] at h ⊢
      have hget : (pre ++ hd :: (toldL inner ++ toldL xs) ++ post)[pre.length]? = some hd := by simp
      rw [rowsB, dif_pos (by omega), hget]
      simp only
      rw [dif_pos (by omega)]
      have e1 : pre.length + hd.size.toNat = pre.length + 1 + (toldL inner).length := by omega
      rw [e1]
      have i1 := ih inner (pre ++ [hd]) (toldL xs ++ post) (by omega)
      have i2 := ih xs (pre ++ hd :: toldL inner) post (by omega)
      have l1 : pre ++ [hd] ++ toldL inner ++ (toldL xs ++ post) = pre ++ hd :: (toldL inner ++ toldL xs) ++ post := by simp
      have l2 : pre ++ hd :: toldL inner ++ toldL xs ++ post = pre ++ hd :: (toldL inner ++ toldL xs) ++ post := by simp
      rw [l1] at i1
      rw [l2] at i2
      simp only [List.length_append, List.length_cons, List.length_nil] at i1 i2
      rw [show pre.length + (0 + 1) + (toldL inner).length = pre.length + 1 + (toldL inner).length by omega, show pre.length + (0 + 1) = pre.length + 1 by omega] at i1
      rw [show pre.length + ((toldL inner).length + 1) + (toldL xs).length = pre.length + ((toldL inner).length + (toldL xs).length + 1) by omega, show pre.length + ((toldL inner).length + 1) = pre.length + 1 + (toldL inner).length by omega] at i2
      rw [i1, i2]
      rcases hk with hk | rfl
      · simp [hk]
      · have : hd.size ≤ 1 := by simp [toldL] at hsz; omega
        simp [this]
/-- what is read is a document -/
theorem readR_isB {s : List UInt8} (h : (readR s).2.2 = 0) : isB (readR s).1 = true := by
  obtain ⟨_, l, hl, hn, ht⟩ := readR_ok h
  rw [ht]
  have h1 := told_ok l.length l false (by rw [nodesT_false, hn])
  rw [nodesT_false] at h1
  have h2 := rowsB_told _ (nodesR l.length l).1 [] [] (Nat.le_refl _)
  simp only [List.nil_append, List.append_nil, List.length_nil, Nat.zero_add] at h2
  simp only [isB, Bool.and_eq_true, List.all_eq_true]
  exact ⟨h1, h2⟩
end Go.Vc
namespace Go.Vc
open Go.Proofs
def readB (s : List UInt8) (want : List Nd) : Bool := decide ((readR s).2.2 = 0) && (decide ((readR s).2.1 = 0) && decide ((readR s).1 = want))
def wrongB (s : List UInt8) (p : Int) : Bool := decide ((readR s).1.length = 0) && (decide ((readR s).2.1 = p) && decide ((readR s).2.2 = 1))
theorem isr_c (s : List UInt8) (want : List Nd) (hs : s.length ≤ 10000) (hw : Fine want) : PFun Tryd.prog 31 [.str s, encNs want] (.bool (readB s want)) := fun σ => by
  refine Contract.of_runs Tryd.func31 e31 k31 (by simp [c31]) ?_
  refine Runs.mix 9 ?_
  (refine Runs.of_step Orc.nothing 300 ?_; simp -implicitDefEqProofs only [BB, effR_some, effD_some, Int.reduceEq, Int.reduceNe, Int.reduceLT, Int.reduceLE, Int.reduceGT, Int.reduceGE, Nat.reduceEqDiff, Nat.reduceAdd, Nat.reduceMul, Nat.reduceLeDiff, Nat.reduceSub, Nat.reduceLT, Nat.reduceBEq, ↓reduceIte, reduceCtorEq, ← decide_not, okind, vpre, vpure, intBin, intPre, strBin, strPre, popTo, argSlots, fldV, fldAV, subCells, idxVV, idxAAV, idxSV, sliceV, sliceSV, boundV, szIs, storeOp, storeS, setRowV, eff, extV, buildV, splice, eqSV, fitsL, eqCells, eqCell, minmaxV, capV, binBV, nilCheckV, bytesV, V.cells, V.stays, Orc.nothing, c31])
  refine Runs.pcall rfl rfl rfl (readOf_c s (by omega) _) ?_
  have hf := readR_fine hs
  have his := readIs_c s (by omega) σ
  unfold readB
  generalize readR s = r at *
  obtain ⟨l, a, e⟩ := r
  simp only [readV] at *
  by_cases he : e = 0
  · subst he
    by_cases ha : a = 0
    · subst ha
      (refine Runs.of_step Orc.nothing 300 ?_; simp -implicitDefEqProofs only [BB, effR_some, effD_some, Int.reduceEq, Int.reduceNe, Int.reduceLT, Int.reduceLE, Int.reduceGT, Int.reduceGE, Nat.reduceEqDiff, Nat.reduceAdd, Nat.reduceMul, Nat.reduceLeDiff, Nat.reduceSub, Nat.reduceLT, Nat.reduceBEq, ↓reduceIte, reduceCtorEq, ← decide_not, okind, vpre, vpure, intBin, intPre, strBin, strPre, popTo, argSlots, fldV, fldAV, subCells, idxVV, idxAAV, idxSV, sliceV, sliceSV, boundV, szIs, storeOp, storeS, setRowV, eff, extV, buildV, splice, eqSV, fitsL, eqCells, eqCell, minmaxV, capV, binBV, nilCheckV, bytesV, V.cells, V.stays, Orc.nothing])
      refine Runs.pcall rfl rfl rfl (same5_c l want ⟨hf.1, fun x hx => by have := hf.2 x hx; omega⟩ hw _) ?_
      by_cases hl : l = want
      · rw [decide_eq_true hl]
        (refine Runs.of_step Orc.nothing 300 ?_; simp -implicitDefEqProofs only [BB, effR_some, effD_some, Int.reduceEq, Int.reduceNe, Int.reduceLT, Int.reduceLE, Int.reduceGT, Int.reduceGE, Nat.reduceEqDiff, Nat.reduceAdd, Nat.reduceMul, Nat.reduceLeDiff, Nat.reduceSub, Nat.reduceLT, Nat.reduceBEq, ↓reduceIte, reduceCtorEq, ← decide_not, okind, vpre, vpure, intBin, intPre, strBin, strPre, popTo, argSlots, fldV, fldAV, subCells, idxVV, idxAAV, idxSV, sliceV, sliceSV, boundV, szIs, storeOp, storeS, setRowV, eff, extV, buildV, splice, eqSV, fitsL, eqCells, eqCell, minmaxV, capV, binBV, nilCheckV, bytesV, V.cells, V.stays, Orc.nothing])
        refine Runs.pcall rfl rfl rfl his ?_
        (refine Runs.of_step Orc.nothing 300 ?_; simp -implicitDefEqProofs only [BB, effR_some, effD_some, Int.reduceEq, Int.reduceNe, Int.reduceLT, Int.reduceLE, Int.reduceGT, Int.reduceGE, Nat.reduceEqDiff, Nat.reduceAdd, Nat.reduceMul, Nat.reduceLeDiff, Nat.reduceSub, Nat.reduceLT, Nat.reduceBEq, ↓reduceIte, reduceCtorEq, ← decide_not, okind, vpre, vpure, intBin, intPre, strBin, strPre, popTo, argSlots, fldV, fldAV, subCells, idxVV, idxAAV, idxSV, sliceV, sliceSV, boundV, szIs, storeOp, storeS, setRowV, eff, extV, buildV, splice, eqSV, fitsL, eqCells, eqCell, minmaxV, capV, binBV, nilCheckV, bytesV, V.cells, V.stays, Orc.nothing])
        exact RetV.same rfl
      · rw [decide_eq_false hl]
        (refine Runs.of_step Orc.nothing 300 ?_; simp -implicitDefEqProofs only [BB, effR_some, effD_some, Int.reduceEq, Int.reduceNe, Int.reduceLT, Int.reduceLE, Int.reduceGT, Int.reduceGE, Nat.reduceEqDiff, Nat.reduceAdd, Nat.reduceMul, Nat.reduceLeDiff, Nat.reduceSub, Nat.reduceLT, Nat.reduceBEq, ↓reduceIte, reduceCtorEq, ← decide_not, okind, vpre, vpure, intBin, intPre, strBin, strPre, popTo, argSlots, fldV, fldAV, subCells, idxVV, idxAAV, idxSV, sliceV, sliceSV, boundV, szIs, storeOp, storeS, setRowV, eff, extV, buildV, splice, eqSV, fitsL, eqCells, eqCell, minmaxV, capV, binBV, nilCheckV, bytesV, V.cells, V.stays, Orc.nothing])
        exact RetV.same rfl
    · have ha' : (a = 0) = False := by simpa using ha
      (refine Runs.of_step Orc.nothing 300 ?_; simp -implicitDefEqProofs only [BB, effR_some, effD_some, Int.reduceEq, Int.reduceNe, Int.reduceLT, Int.reduceLE, Int.reduceGT, Int.reduceGE, Nat.reduceEqDiff, Nat.reduceAdd, Nat.reduceMul, Nat.reduceLeDiff, Nat.reduceSub, Nat.reduceLT, Nat.reduceBEq, ↓reduceIte, reduceCtorEq, ← decide_not, okind, vpre, vpure, intBin, intPre, strBin, strPre, popTo, argSlots, fldV, fldAV, subCells, idxVV, idxAAV, idxSV, sliceV, sliceSV, boundV, szIs, storeOp, storeS, setRowV, eff, extV, buildV, splice, eqSV, fitsL, eqCells, eqCell, minmaxV, capV, binBV, nilCheckV, bytesV, V.cells, V.stays, Orc.nothing, ha'])
      exact RetV.same rfl
  · have he' : (e = 0) = False := by simpa using he
    (refine Runs.of_step Orc.nothing 300 ?_; simp -implicitDefEqProofs only [BB, effR_some, effD_some, Int.reduceEq, Int.reduceNe, Int.reduceLT, Int.reduceLE, Int.reduceGT, Int.reduceGE, Nat.reduceEqDiff, Nat.reduceAdd, Nat.reduceMul, Nat.reduceLeDiff, Nat.reduceSub, Nat.reduceLT, Nat.reduceBEq, ↓reduceIte, reduceCtorEq, ← decide_not, okind, vpre, vpure, intBin, intPre, strBin, strPre, popTo, argSlots, fldV, fldAV, subCells, idxVV, idxAAV, idxSV, sliceV, sliceSV, boundV, szIs, storeOp, storeS, setRowV, eff, extV, buildV, splice, eqSV, fitsL, eqCells, eqCell, minmaxV, capV, binBV, nilCheckV, bytesV, V.cells, V.stays, Orc.nothing, he'])
    exact RetV.same rfl
theorem wrongr_c (s : List UInt8) (p : Int) (hs : s.length ≤ 10000) : PFun Tryd.prog 33 [.str s, vI p] (.bool (wrongB s p)) := fun σ => by
  refine Contract.of_runs Tryd.func33 e33 k33 (by simp [c33]) ?_
  refine Runs.mix 9 ?_
  (refine Runs.of_step Orc.nothing 300 ?_; simp -implicitDefEqProofs only [BB, effR_some, effD_some, Int.reduceEq, Int.reduceNe, Int.reduceLT, Int.reduceLE, Int.reduceGT, Int.reduceGE, Nat.reduceEqDiff, Nat.reduceAdd, Nat.reduceMul, Nat.reduceLeDiff, Nat.reduceSub, Nat.reduceLT, Nat.reduceBEq, ↓reduceIte, reduceCtorEq, ← decide_not, okind, vpre, vpure, intBin, intPre, strBin, strPre, popTo, argSlots, fldV, fldAV, subCells, idxVV, idxAAV, idxSV, sliceV, sliceSV, boundV, szIs, storeOp, storeS, setRowV, eff, extV, buildV, splice, eqSV, fitsL, eqCells, eqCell, minmaxV, capV, binBV, nilCheckV, bytesV, V.cells, V.stays, Orc.nothing, c33])
  refine Runs.pcall rfl rfl rfl (readOf_c s (by omega) _) ?_
  have his := readIs_c s (by omega) σ
  unfold wrongB
  generalize readR s = r at *
  obtain ⟨l, a, e⟩ := r
  simp only [readV] at *
  have hln := lenV_encNs l
  by_cases h0 : l.length = 0
  · have h0' : ((l.length : Int) = 0) = True := by simp [h0]
    by_cases ha : a = p
    · subst ha
      by_cases he : e = 1
      · subst he
        (refine Runs.of_step Orc.nothing 300 ?_; simp -implicitDefEqProofs only [BB, effR_some, effD_some, Int.reduceEq, Int.reduceNe, Int.reduceLT, Int.reduceLE, Int.reduceGT, Int.reduceGE, Nat.reduceEqDiff, Nat.reduceAdd, Nat.reduceMul, Nat.reduceLeDiff, Nat.reduceSub, Nat.reduceLT, Nat.reduceBEq, ↓reduceIte, reduceCtorEq, ← decide_not, okind, vpre, vpure, intBin, intPre, strBin, strPre, popTo, argSlots, fldV, fldAV, subCells, idxVV, idxAAV, idxSV, sliceV, sliceSV, boundV, szIs, storeOp, storeS, setRowV, eff, extV, buildV, splice, eqSV, fitsL, eqCells, eqCell, minmaxV, capV, binBV, nilCheckV, bytesV, V.cells, V.stays, Orc.nothing, hln, h0'])
        refine Runs.pcall rfl rfl rfl his ?_
        (refine Runs.of_step Orc.nothing 300 ?_; simp -implicitDefEqProofs only [BB, effR_some, effD_some, Int.reduceEq, Int.reduceNe, Int.reduceLT, Int.reduceLE, Int.reduceGT, Int.reduceGE, Nat.reduceEqDiff, Nat.reduceAdd, Nat.reduceMul, Nat.reduceLeDiff, Nat.reduceSub, Nat.reduceLT, Nat.reduceBEq, ↓reduceIte, reduceCtorEq, ← decide_not, okind, vpre, vpure, intBin, intPre, strBin, strPre, popTo, argSlots, fldV, fldAV, subCells, idxVV, idxAAV, idxSV, sliceV, sliceSV, boundV, szIs, storeOp, storeS, setRowV, eff, extV, buildV, splice, eqSV, fitsL, eqCells, eqCell, minmaxV, capV, binBV, nilCheckV, bytesV, V.cells, V.stays, Orc.nothing])
        exact RetV.same (by simp [h0])
      · have he' : (e = 1) = False := by simpa using he
        (refine Runs.of_step Orc.nothing 300 ?_; simp -implicitDefEqProofs only [BB, effR_some, effD_some, Int.reduceEq, Int.reduceNe, Int.reduceLT, Int.reduceLE, Int.reduceGT, Int.reduceGE, Nat.reduceEqDiff, Nat.reduceAdd, Nat.reduceMul, Nat.reduceLeDiff, Nat.reduceSub, Nat.reduceLT, Nat.reduceBEq, ↓reduceIte, reduceCtorEq, ← decide_not, okind, vpre, vpure, intBin, intPre, strBin, strPre, popTo, argSlots, fldV, fldAV, subCells, idxVV, idxAAV, idxSV, sliceV, sliceSV, boundV, szIs, storeOp, storeS, setRowV, eff, extV, buildV, splice, eqSV, fitsL, eqCells, eqCell, minmaxV, capV, binBV, nilCheckV, bytesV, V.cells, V.stays, Orc.nothing, hln, h0', he'])
        exact RetV.same (by simp)
    · have ha' : (a = p) = False := by simpa using ha
      (refine Runs.of_step Orc.nothing 300 ?_; simp -implicitDefEqProofs only [BB, effR_some, effD_some, Int.reduceEq, Int.reduceNe, Int.reduceLT, Int.reduceLE, Int.reduceGT, Int.reduceGE, Nat.reduceEqDiff, Nat.reduceAdd, Nat.reduceMul, Nat.reduceLeDiff, Nat.reduceSub, Nat.reduceLT, Nat.reduceBEq, ↓reduceIte, reduceCtorEq, ← decide_not, okind, vpre, vpure, intBin, intPre, strBin, strPre, popTo, argSlots, fldV, fldAV, subCells, idxVV, idxAAV, idxSV, sliceV, sliceSV, boundV, szIs, storeOp, storeS, setRowV, eff, extV, buildV, splice, eqSV, fitsL, eqCells, eqCell, minmaxV, capV, binBV, nilCheckV, bytesV, V.cells, V.stays, Orc.nothing, hln, h0', ha'])
      exact RetV.same (by simp [ha])
  · have h0' : ((l.length : Int) = 0) = False := by simp; exact fun h => h0 (by simpa using h)
    (refine Runs.of_step Orc.nothing 300 ?_; simp -implicitDefEqProofs only [BB, effR_some, effD_some, Int.reduceEq, Int.reduceNe, Int.reduceLT, Int.reduceLE, Int.reduceGT, Int.reduceGE, Nat.reduceEqDiff, Nat.reduceAdd, Nat.reduceMul, Nat.reduceLeDiff, Nat.reduceSub, Nat.reduceLT, Nat.reduceBEq, ↓reduceIte, reduceCtorEq, ← decide_not, okind, vpre, vpure, intBin, intPre, strBin, strPre, popTo, argSlots, fldV, fldAV, subCells, idxVV, idxAAV, idxSV, sliceV, sliceSV, boundV, szIs, storeOp, storeS, setRowV, eff, extV, buildV, splice, eqSV, fitsL, eqCells, eqCell, minmaxV, capV, binBV, nilCheckV, bytesV, V.cells, V.stays, Orc.nothing, hln, h0'])
    exact RetV.same (by simp [h0])
end Go.Vc
namespace Go.Vc
/-- the answer's tokens, by so many steps -/
def ofF : Nat → List UInt8 → Bool → Nat → Res
  | 0, _, _, _ => .ok []
  | f + 1, s, c, i =>
    if i < s.length then
      if sizeR s i = 0 then .bad i
      else if c then ofF f s (decide (byt s i ≠ 10)) (i + sizeR s i)
      else if byt s i = 35 then ofF f s true (i + 1)
      else if byt s i = 32 ∨ byt s i = 9 ∨ byt s i = 10 then ofF f s false (i + 1)
      else if 48 ≤ byt s i ∧ byt s i ≤ 57 then
        if numBad (digsAt s i) then .bad i
        else (ofF f s false (i + digLen (s.drop i))).cons ⟨2, 0, numR (digsAt s i), i⟩
      else (ofF f s false (i + sizeR s i)).cons ⟨1, runeR s i (sizeR s i), 0, i⟩
    else .ok []
theorem ofF_eq (s : List UInt8) : ∀ (f : Nat) (c : Bool) (i : Nat), s.length - i ≤ f → ofF f s c i = ofI s c i
  | 0, c, i, h => by rw [ofI_end (by omega)]; rfl
  | f + 1, c, i, h => by
    unfold ofF
    by_cases hlt : i < s.length
    · rw [if_pos hlt]
      by_cases hz : sizeR s i = 0
      · rw [if_pos hz, ofI_bad hlt hz]
      · rw [if_neg hz]
        cases c
        · rw [if_neg (by simp)]
          by_cases h35 : byt s i = 35
          · rw [if_pos h35, ofI_hash hlt hz h35, ofF_eq s f true (i + 1) (by omega)]
          · rw [if_neg h35]
            by_cases hw : byt s i = 32 ∨ byt s i = 9 ∨ byt s i = 10
            · rw [if_pos hw, ofI_white hlt hz hw, ofF_eq s f false (i + 1) (by omega)]
            · rw [if_neg hw]
              by_cases hd : 48 ≤ byt s i ∧ byt s i ≤ 57
              · have hdp := digLen_pos hd.1 hd.2
                rw [if_pos hd, ofI_num hlt hz hd, ofF_eq s f false _ (by omega)]
              · rw [if_neg hd, ofI_sign hlt hz (by omega), ofF_eq s f false _ (by omega)]
        · rw [if_pos rfl, ofI_com hlt hz, ofF_eq s f _ _ (by omega)]
    · rw [if_neg hlt, ofI_end hlt]
end Go.Vc
namespace Go.Vc
open Go.Proofs
/-- a script is read, by so many steps -/
def readF (s : List UInt8) : List Nd × Int × Int := match ofF s.length s false 0 with
  | .bad p => ([], p, 1)
  | .ok l => match (nodesR l.length l).2.1 with
    | t :: _ => ([], t.at', 1)
    | [] => if (nodesR l.length l).2.2 then ([], s.length, 1) else (toldL (nodesR l.length l).1, 0, 0)
theorem readF_eq (s : List UInt8) : readF s = readR s := by
  unfold readF readR
  rw [ofF_eq s s.length false 0 (by omega)]
  all_goals (cases ofI s false 0 <;> rfl)
theorem readB_of {s : List UInt8} {want : List Nd} (h : readF s = (want, 0, 0)) : readB s want = true := by
  rw [readF_eq] at h
  simp [readB, h]
theorem wrongB_of {s : List UInt8} {p : Int} (h : readF s = ([], p, 1)) : wrongB s p = true := by
  rw [readF_eq] at h
  simp [wrongB, h]
theorem isr_own {s : List UInt8} {want : List Nd} (hs : s.length ≤ 10000) (hw : Fine want) (hr : readF s = (want, 0, 0)) {σ : Store} {id n : Nat} {rows : List V} (hn : n = rows.length) (ho : σ id = some ⟨37, 20, rows⟩)
    (hf : FzL σ (fun _ => True) rows (want.map encN)) : Contract Tryd.prog 31 [.str s, .own id 0 n] σ fun r σ' => r = .bool true ∧ σ' = σ := by
  refine PFun.borrow (args' := [.str s, encNs want]) ⟨Wk.refl (nost_sub σ) _, ?_, trivial⟩ (readB_of hr ▸ isr_c s want hs hw) rfl
  refine (Fz.own id 0 n ⟨_, 20, rows⟩ _ ho trivial (by simp [hn]) ?_ : Fz σ (fun _ => True) _ _).wk (nost_sub σ) (fun _ _ => rfl)
  rw [List.drop_zero, List.take_of_length_le (by simp [hn])]
  exact hf
theorem wrong_y {s : List UInt8} {p : Int} (hs : s.length ≤ 10000) (hr : readF s = ([], p, 1)) : PFun Tryd.prog 33 [.str s, vI p] (.bool true) := wrongB_of hr ▸ wrongr_c s p hs
def blkN (size top widows before : Int) : Nd := ⟨1, size, ⟨top, 0, 0, 0, 0, 2, widows, 0, before, 0, 0, 0⟩, 0, 0, [], 0, 0, 0⟩
theorem lblock_c (size top widows before : Int) : PFun Tryd.prog 32 [vI size, vI top, vI widows, vI before] (ndW (blkN size top widows before) .nils) := fun σ => by
  refine Contract.of_runs Tryd.func32 e32 k32 (by simp [c32]) ?_
  refine Runs.mix 10 ?_
  (refine Runs.of_step Orc.nothing 300 ?_; simp -implicitDefEqProofs only [BB, Int.reduceEq, Int.reduceNe, Int.reduceLT, Int.reduceLE, Int.reduceGT, Int.reduceGE, Nat.reduceEqDiff, Nat.reduceAdd, Nat.reduceMul, Nat.reduceLeDiff, Nat.reduceSub, Nat.reduceLT, Nat.reduceBEq, ↓reduceIte, reduceCtorEq, ← decide_not, okind, vpre, vpure, intBin, intPre, strBin, strPre, popTo, argSlots, fldV, fldAV, subCells, idxVV, idxAAV, idxSV, sliceV, sliceSV, boundV, szIs, storeOp, storeS, setRowV, eff, extV, buildV, splice, eqSV, fitsL, eqCells, eqCell, minmaxV, capV, binBV, nilCheckV, bytesV, V.cells, V.stays, Orc.nothing, c32])
  refine effR_new fun id8 σ8 s8 a8 f8 => ?_
  simp -implicitDefEqProofs only [BB, Int.reduceEq, Int.reduceNe, Int.reduceLT, Int.reduceLE, Int.reduceGT, Int.reduceGE, Nat.reduceEqDiff, Nat.reduceAdd, Nat.reduceMul, Nat.reduceLeDiff, Nat.reduceSub, Nat.reduceLT, Nat.reduceBEq, ↓reduceIte, reduceCtorEq, ← decide_not, okind, vpre, vpure, intBin, intPre, strBin, strPre, popTo, argSlots, fldV, fldAV, subCells, idxVV, idxAAV, idxSV, sliceV, sliceSV, boundV, szIs, storeOp, storeS, setRowV, eff, extV, buildV, splice, eqSV, fitsL, eqCells, eqCell, minmaxV, capV, binBV, nilCheckV, bytesV, V.cells, V.stays]
  refine Runs.pcall rfl rfl rfl (plain_c _) ?_
  (refine Runs.of_step Orc.nothing 300 ?_; simp -implicitDefEqProofs only [BB, Int.reduceEq, Int.reduceNe, Int.reduceLT, Int.reduceLE, Int.reduceGT, Int.reduceGE, Nat.reduceEqDiff, Nat.reduceAdd, Nat.reduceMul, Nat.reduceLeDiff, Nat.reduceSub, Nat.reduceLT, Nat.reduceBEq, ↓reduceIte, reduceCtorEq, ← decide_not, okind, vpre, vpure, intBin, intPre, strBin, strPre, popTo, argSlots, fldV, fldAV, subCells, idxVV, idxAAV, idxSV, sliceV, sliceSV, boundV, szIs, storeOp, storeS, setRowV, eff, extV, buildV, splice, eqSV, fitsL, eqCells, eqCell, minmaxV, capV, binBV, nilCheckV, bytesV, V.cells, V.stays, Orc.nothing, plainS])
  refine effR_new fun id9 σ9 s9 a9 f9 => ?_
  have n89 := ne_new a8 f9
  have b8 := s9 _ _ a8
  simp -implicitDefEqProofs only [BB, Int.reduceEq, Int.reduceNe, Int.reduceLT, Int.reduceLE, Int.reduceGT, Int.reduceGE, Nat.reduceEqDiff, Nat.reduceAdd, Nat.reduceMul, Nat.reduceLeDiff, Nat.reduceSub, Nat.reduceLT, Nat.reduceBEq, ↓reduceIte, reduceCtorEq, ← decide_not, okind, vpre, vpure, intBin, intPre, strBin, strPre, popTo, argSlots, fldV, fldAV, subCells, idxVV, idxAAV, idxSV, sliceV, sliceSV, boundV, szIs, storeOp, storeS, setRowV, eff, extV, buildV, splice, eqSV, fitsL, eqCells, eqCell, minmaxV, capV, binBV, nilCheckV, bytesV, V.cells, V.stays, a9, b8, upd_ne n89, upd_ne n89.symm]
  exact RetV.pure (((s8.trans s9).updK (s8.none f9)).updK f8) rfl
set_option maxRecDepth 100000 in
theorem awake5_c : PFun Tryd.prog 11 [] (.bool true) := fun σ => by
  refine Contract.of_runs Tryd.func11 e11 k11 (by simp [c11]) ?_
  refine Runs.mix 5 ?_
  (refine Runs.of_step Orc.nothing 300 ?_; simp -implicitDefEqProofs only [BB, Int.reduceEq, Int.reduceNe, Int.reduceLT, Int.reduceLE, Int.reduceGT, Int.reduceGE, Nat.reduceEqDiff, Nat.reduceAdd, Nat.reduceMul, Nat.reduceLeDiff, Nat.reduceSub, Nat.reduceLT, Nat.reduceBEq, ↓reduceIte, reduceCtorEq, ← decide_not, okind, vpre, vpure, intBin, intPre, strBin, strPre, popTo, argSlots, fldV, fldAV, subCells, idxVV, idxAAV, idxSV, sliceV, sliceSV, boundV, szIs, storeOp, storeS, setRowV, eff, extV, buildV, splice, eqSV, fitsL, eqCells, eqCell, minmaxV, capV, binBV, nilCheckV, bytesV, V.cells, V.stays, Orc.nothing, c11])
  refine Runs.pcall rfl rfl rfl (lblock_c 2 5 2 0 _) ?_
  (refine Runs.of_step Orc.nothing 300 ?_; simp -implicitDefEqProofs only [BB, Int.reduceEq, Int.reduceNe, Int.reduceLT, Int.reduceLE, Int.reduceGT, Int.reduceGE, Nat.reduceEqDiff, Nat.reduceAdd, Nat.reduceMul, Nat.reduceLeDiff, Nat.reduceSub, Nat.reduceLT, Nat.reduceBEq, ↓reduceIte, reduceCtorEq, ← decide_not, okind, vpre, vpure, intBin, intPre, strBin, strPre, popTo, argSlots, fldV, fldAV, subCells, idxVV, idxAAV, idxSV, sliceV, sliceSV, boundV, szIs, storeOp, storeS, setRowV, eff, extV, buildV, splice, eqSV, fitsL, eqCells, eqCell, minmaxV, capV, binBV, nilCheckV, bytesV, Orc.nothing, V.cells_agg, V.cells_int, V.cells_nils, V.cells_own, V.cells_sl, V.cells_str, V.cells_bool, V.cells_fn, V.cells_ptr, V.cells_rp, V.stays_agg, V.stays_int, V.stays_nils, V.stays_own, V.stays_sl, V.stays_str, V.stays_bool, V.stays_fn, V.stays_ptr, V.stays_rp, ndW])
  refine effR_new fun id2 σ2 s2 a2 f2 => ?_
  simp -implicitDefEqProofs only [BB, Int.reduceEq, Int.reduceNe, Int.reduceLT, Int.reduceLE, Int.reduceGT, Int.reduceGE, Nat.reduceEqDiff, Nat.reduceAdd, Nat.reduceMul, Nat.reduceLeDiff, Nat.reduceSub, Nat.reduceLT, Nat.reduceBEq, ↓reduceIte, reduceCtorEq, ← decide_not, okind, vpre, vpure, intBin, intPre, strBin, strPre, popTo, argSlots, fldV, fldAV, subCells, idxVV, idxAAV, idxSV, sliceV, sliceSV, boundV, szIs, storeOp, storeS, setRowV, eff, extV, buildV, splice, eqSV, fitsL, eqCells, eqCell, minmaxV, capV, binBV, nilCheckV, bytesV, V.cells_agg, V.cells_int, V.cells_nils, V.cells_own, V.cells_sl, V.cells_str, V.cells_bool, V.cells_fn, V.cells_ptr, V.cells_rp, V.stays_agg, V.stays_int, V.stays_nils, V.stays_own, V.stays_sl, V.stays_str, V.stays_bool, V.stays_fn, V.stays_ptr, V.stays_rp, a2]
  refine effR_new fun id4 σ4 s4 a4 f4 => ?_
  have b2 := s4 _ _ a2
  simp -implicitDefEqProofs only [BB, Int.reduceEq, Int.reduceNe, Int.reduceLT, Int.reduceLE, Int.reduceGT, Int.reduceGE, Nat.reduceEqDiff, Nat.reduceAdd, Nat.reduceMul, Nat.reduceLeDiff, Nat.reduceSub, Nat.reduceLT, Nat.reduceBEq, ↓reduceIte, reduceCtorEq, ← decide_not, okind, vpre, vpure, intBin, intPre, strBin, strPre, popTo, argSlots, fldV, fldAV, subCells, idxVV, idxAAV, idxSV, sliceV, sliceSV, boundV, szIs, storeOp, storeS, setRowV, eff, extV, buildV, splice, eqSV, fitsL, eqCells, eqCell, minmaxV, capV, binBV, nilCheckV, bytesV, V.cells, V.stays]
  have hw1 : Fine [blkN 2 5 2 0, ⟨2, 1, Sty.zero, 10, 2, [30, 40], 0, 0, 0⟩] := ⟨by simp, by simp [blkN]⟩
  refine Runs.pcall rfl rfl rfl (isr_own (want := [blkN 2 5 2 0, ⟨2, 1, Sty.zero, 10, 2, [30, 40], 0, 0, 0⟩]) (by simp) hw1 (by kernel_rfl) rfl a4
    (.cons _ _ _ _ (fz_nd (x := blkN 2 5 2 0) (.nil 1)) (.cons _ _ _ _ (fz_nd (x := ⟨2, 1, Sty.zero, 10, 2, [30, 40], 0, 0, 0⟩) (.own id2 0 2 _ _ b2 trivial (by simp) (FzL.same _ rfl))) .nil))) ?_
  (refine Runs.of_step Orc.nothing 300 ?_; simp -implicitDefEqProofs only [BB, Int.reduceEq, Int.reduceNe, Int.reduceLT, Int.reduceLE, Int.reduceGT, Int.reduceGE, Nat.reduceEqDiff, Nat.reduceAdd, Nat.reduceMul, Nat.reduceLeDiff, Nat.reduceSub, Nat.reduceLT, Nat.reduceBEq, ↓reduceIte, reduceCtorEq, ← decide_not, okind, vpre, vpure, intBin, intPre, strBin, strPre, popTo, argSlots, fldV, fldAV, subCells, idxVV, idxAAV, idxSV, sliceV, sliceSV, boundV, szIs, storeOp, storeS, setRowV, eff, extV, buildV, splice, eqSV, fitsL, eqCells, eqCell, minmaxV, capV, binBV, nilCheckV, bytesV, Orc.nothing, V.cells_agg, V.cells_int, V.cells_nils, V.cells_own, V.cells_sl, V.cells_str, V.cells_bool, V.cells_fn, V.cells_ptr, V.cells_rp, V.stays_agg, V.stays_int, V.stays_nils, V.stays_own, V.stays_sl, V.stays_str, V.stays_bool, V.stays_fn, V.stays_ptr, V.stays_rp])
  refine effR_new fun id9 σ9 s9 a9 f9 => ?_
  simp -implicitDefEqProofs only [BB, Int.reduceEq, Int.reduceNe, Int.reduceLT, Int.reduceLE, Int.reduceGT, Int.reduceGE, Nat.reduceEqDiff, Nat.reduceAdd, Nat.reduceMul, Nat.reduceLeDiff, Nat.reduceSub, Nat.reduceLT, Nat.reduceBEq, ↓reduceIte, reduceCtorEq, ← decide_not, okind, vpre, vpure, intBin, intPre, strBin, strPre, popTo, argSlots, fldV, fldAV, subCells, idxVV, idxAAV, idxSV, sliceV, sliceSV, boundV, szIs, storeOp, storeS, setRowV, eff, extV, buildV, splice, eqSV, fitsL, eqCells, eqCell, minmaxV, capV, binBV, nilCheckV, bytesV, V.cells, V.stays]
  have hw2 : Fine [⟨3, 1, Sty.zero, 0, 0, [], 0, 3, 4⟩, ⟨4, 1, Sty.zero, 0, 0, [], 1, 5, 6⟩] := ⟨by simp, by simp⟩
  refine Runs.pcall rfl rfl rfl (isr_own (want := [⟨3, 1, Sty.zero, 0, 0, [], 0, 3, 4⟩, ⟨4, 1, Sty.zero, 0, 0, [], 1, 5, 6⟩]) (by simp) hw2 (by kernel_rfl) rfl a9
    (.cons _ _ _ _ (fz_nd (x := ⟨3, 1, Sty.zero, 0, 0, [], 0, 3, 4⟩) (.nil 1)) (.cons _ _ _ _ (fz_nd (x := ⟨4, 1, Sty.zero, 0, 0, [], 1, 5, 6⟩) (.nil 1)) .nil))) ?_
  (refine Runs.of_step Orc.nothing 300 ?_; simp -implicitDefEqProofs only [BB, Int.reduceEq, Int.reduceNe, Int.reduceLT, Int.reduceLE, Int.reduceGT, Int.reduceGE, Nat.reduceEqDiff, Nat.reduceAdd, Nat.reduceMul, Nat.reduceLeDiff, Nat.reduceSub, Nat.reduceLT, Nat.reduceBEq, ↓reduceIte, reduceCtorEq, ← decide_not, okind, vpre, vpure, intBin, intPre, strBin, strPre, popTo, argSlots, fldV, fldAV, subCells, idxVV, idxAAV, idxSV, sliceV, sliceSV, boundV, szIs, storeOp, storeS, setRowV, eff, extV, buildV, splice, eqSV, fitsL, eqCells, eqCell, minmaxV, capV, binBV, nilCheckV, bytesV, V.cells, V.stays, Orc.nothing])
  refine Runs.pcall rfl rfl rfl (lblock_c 1 0 2 0 _) ?_
  (refine Runs.of_step Orc.nothing 300 ?_; simp -implicitDefEqProofs only [BB, Int.reduceEq, Int.reduceNe, Int.reduceLT, Int.reduceLE, Int.reduceGT, Int.reduceGE, Nat.reduceEqDiff, Nat.reduceAdd, Nat.reduceMul, Nat.reduceLeDiff, Nat.reduceSub, Nat.reduceLT, Nat.reduceBEq, ↓reduceIte, reduceCtorEq, ← decide_not, okind, vpre, vpure, intBin, intPre, strBin, strPre, popTo, argSlots, fldV, fldAV, subCells, idxVV, idxAAV, idxSV, sliceV, sliceSV, boundV, szIs, storeOp, storeS, setRowV, eff, extV, buildV, splice, eqSV, fitsL, eqCells, eqCell, minmaxV, capV, binBV, nilCheckV, bytesV, Orc.nothing, V.cells_agg, V.cells_int, V.cells_nils, V.cells_own, V.cells_sl, V.cells_str, V.cells_bool, V.cells_fn, V.cells_ptr, V.cells_rp, V.stays_agg, V.stays_int, V.stays_nils, V.stays_own, V.stays_sl, V.stays_str, V.stays_bool, V.stays_fn, V.stays_ptr, V.stays_rp, ndW])
  refine effR_new fun id14 σ14 s14 a14 f14 => ?_
  simp -implicitDefEqProofs only [BB, Int.reduceEq, Int.reduceNe, Int.reduceLT, Int.reduceLE, Int.reduceGT, Int.reduceGE, Nat.reduceEqDiff, Nat.reduceAdd, Nat.reduceMul, Nat.reduceLeDiff, Nat.reduceSub, Nat.reduceLT, Nat.reduceBEq, ↓reduceIte, reduceCtorEq, ← decide_not, okind, vpre, vpure, intBin, intPre, strBin, strPre, popTo, argSlots, fldV, fldAV, subCells, idxVV, idxAAV, idxSV, sliceV, sliceSV, boundV, szIs, storeOp, storeS, setRowV, eff, extV, buildV, splice, eqSV, fitsL, eqCells, eqCell, minmaxV, capV, binBV, nilCheckV, bytesV, V.cells, V.stays]
  have hw3 : Fine [blkN 1 0 2 0] := ⟨by simp, by simp [blkN]⟩
  refine Runs.pcall rfl rfl rfl (isr_own (want := [blkN 1 0 2 0]) (by simp) hw3 (by kernel_rfl) rfl a14 (.cons _ _ _ _ (fz_nd (x := blkN 1 0 2 0) (.nil 1)) .nil)) ?_
  (refine Runs.of_step Orc.nothing 300 ?_; simp -implicitDefEqProofs only [BB, Int.reduceEq, Int.reduceNe, Int.reduceLT, Int.reduceLE, Int.reduceGT, Int.reduceGE, Nat.reduceEqDiff, Nat.reduceAdd, Nat.reduceMul, Nat.reduceLeDiff, Nat.reduceSub, Nat.reduceLT, Nat.reduceBEq, ↓reduceIte, reduceCtorEq, ← decide_not, okind, vpre, vpure, intBin, intPre, strBin, strPre, popTo, argSlots, fldV, fldAV, subCells, idxVV, idxAAV, idxSV, sliceV, sliceSV, boundV, szIs, storeOp, storeS, setRowV, eff, extV, buildV, splice, eqSV, fitsL, eqCells, eqCell, minmaxV, capV, binBV, nilCheckV, bytesV, V.cells, V.stays, Orc.nothing])
  refine Runs.pcall rfl rfl rfl (lblock_c 1 0 1 4 _) ?_
  (refine Runs.of_step Orc.nothing 300 ?_; simp -implicitDefEqProofs only [BB, Int.reduceEq, Int.reduceNe, Int.reduceLT, Int.reduceLE, Int.reduceGT, Int.reduceGE, Nat.reduceEqDiff, Nat.reduceAdd, Nat.reduceMul, Nat.reduceLeDiff, Nat.reduceSub, Nat.reduceLT, Nat.reduceBEq, ↓reduceIte, reduceCtorEq, ← decide_not, okind, vpre, vpure, intBin, intPre, strBin, strPre, popTo, argSlots, fldV, fldAV, subCells, idxVV, idxAAV, idxSV, sliceV, sliceSV, boundV, szIs, storeOp, storeS, setRowV, eff, extV, buildV, splice, eqSV, fitsL, eqCells, eqCell, minmaxV, capV, binBV, nilCheckV, bytesV, Orc.nothing, V.cells_agg, V.cells_int, V.cells_nils, V.cells_own, V.cells_sl, V.cells_str, V.cells_bool, V.cells_fn, V.cells_ptr, V.cells_rp, V.stays_agg, V.stays_int, V.stays_nils, V.stays_own, V.stays_sl, V.stays_str, V.stays_bool, V.stays_fn, V.stays_ptr, V.stays_rp, ndW])
  refine effR_new fun id19 σ19 s19 a19 f19 => ?_
  simp -implicitDefEqProofs only [BB, Int.reduceEq, Int.reduceNe, Int.reduceLT, Int.reduceLE, Int.reduceGT, Int.reduceGE, Nat.reduceEqDiff, Nat.reduceAdd, Nat.reduceMul, Nat.reduceLeDiff, Nat.reduceSub, Nat.reduceLT, Nat.reduceBEq, ↓reduceIte, reduceCtorEq, ← decide_not, okind, vpre, vpure, intBin, intPre, strBin, strPre, popTo, argSlots, fldV, fldAV, subCells, idxVV, idxAAV, idxSV, sliceV, sliceSV, boundV, szIs, storeOp, storeS, setRowV, eff, extV, buildV, splice, eqSV, fitsL, eqCells, eqCell, minmaxV, capV, binBV, nilCheckV, bytesV, V.cells, V.stays]
  have hw4 : Fine [blkN 1 0 1 4] := ⟨by simp, by simp [blkN]⟩
  refine Runs.pcall rfl rfl rfl (isr_own (want := [blkN 1 0 1 4]) (by simp) hw4 (by kernel_rfl) rfl a19 (.cons _ _ _ _ (fz_nd (x := blkN 1 0 1 4) (.nil 1)) .nil)) ?_
  (refine Runs.of_step Orc.nothing 300 ?_; simp -implicitDefEqProofs only [BB, Int.reduceEq, Int.reduceNe, Int.reduceLT, Int.reduceLE, Int.reduceGT, Int.reduceGE, Nat.reduceEqDiff, Nat.reduceAdd, Nat.reduceMul, Nat.reduceLeDiff, Nat.reduceSub, Nat.reduceLT, Nat.reduceBEq, ↓reduceIte, reduceCtorEq, ← decide_not, okind, vpre, vpure, intBin, intPre, strBin, strPre, popTo, argSlots, fldV, fldAV, subCells, idxVV, idxAAV, idxSV, sliceV, sliceSV, boundV, szIs, storeOp, storeS, setRowV, eff, extV, buildV, splice, eqSV, fitsL, eqCells, eqCell, minmaxV, capV, binBV, nilCheckV, bytesV, V.cells, V.stays, Orc.nothing])
  refine Runs.pcall rfl rfl rfl (wrong_y (by simp) (by kernel_rfl) _) ?_
  (refine Runs.of_step Orc.nothing 300 ?_; simp -implicitDefEqProofs only [BB, Int.reduceEq, Int.reduceNe, Int.reduceLT, Int.reduceLE, Int.reduceGT, Int.reduceGE, Nat.reduceEqDiff, Nat.reduceAdd, Nat.reduceMul, Nat.reduceLeDiff, Nat.reduceSub, Nat.reduceLT, Nat.reduceBEq, ↓reduceIte, reduceCtorEq, ← decide_not, okind, vpre, vpure, intBin, intPre, strBin, strPre, popTo, argSlots, fldV, fldAV, subCells, idxVV, idxAAV, idxSV, sliceV, sliceSV, boundV, szIs, storeOp, storeS, setRowV, eff, extV, buildV, splice, eqSV, fitsL, eqCells, eqCell, minmaxV, capV, binBV, nilCheckV, bytesV, V.cells, V.stays, Orc.nothing])
  refine Runs.pcall rfl rfl rfl (wrong_y (by simp) (by kernel_rfl) _) ?_
  (refine Runs.of_step Orc.nothing 300 ?_; simp -implicitDefEqProofs only [BB, Int.reduceEq, Int.reduceNe, Int.reduceLT, Int.reduceLE, Int.reduceGT, Int.reduceGE, Nat.reduceEqDiff, Nat.reduceAdd, Nat.reduceMul, Nat.reduceLeDiff, Nat.reduceSub, Nat.reduceLT, Nat.reduceBEq, ↓reduceIte, reduceCtorEq, ← decide_not, okind, vpre, vpure, intBin, intPre, strBin, strPre, popTo, argSlots, fldV, fldAV, subCells, idxVV, idxAAV, idxSV, sliceV, sliceSV, boundV, szIs, storeOp, storeS, setRowV, eff, extV, buildV, splice, eqSV, fitsL, eqCells, eqCell, minmaxV, capV, binBV, nilCheckV, bytesV, V.cells, V.stays, Orc.nothing])
  refine Runs.pcall rfl rfl rfl (wrong_y (by simp) (by kernel_rfl) _) ?_
  (refine Runs.of_step Orc.nothing 300 ?_; simp -implicitDefEqProofs only [BB, Int.reduceEq, Int.reduceNe, Int.reduceLT, Int.reduceLE, Int.reduceGT, Int.reduceGE, Nat.reduceEqDiff, Nat.reduceAdd, Nat.reduceMul, Nat.reduceLeDiff, Nat.reduceSub, Nat.reduceLT, Nat.reduceBEq, ↓reduceIte, reduceCtorEq, ← decide_not, okind, vpre, vpure, intBin, intPre, strBin, strPre, popTo, argSlots, fldV, fldAV, subCells, idxVV, idxAAV, idxSV, sliceV, sliceSV, boundV, szIs, storeOp, storeS, setRowV, eff, extV, buildV, splice, eqSV, fitsL, eqCells, eqCell, minmaxV, capV, binBV, nilCheckV, bytesV, V.cells, V.stays, Orc.nothing])
  refine Runs.pcall rfl rfl rfl (wrong_y (by simp) (by kernel_rfl) _) ?_
  (refine Runs.of_step Orc.nothing 300 ?_; simp -implicitDefEqProofs only [BB, Int.reduceEq, Int.reduceNe, Int.reduceLT, Int.reduceLE, Int.reduceGT, Int.reduceGE, Nat.reduceEqDiff, Nat.reduceAdd, Nat.reduceMul, Nat.reduceLeDiff, Nat.reduceSub, Nat.reduceLT, Nat.reduceBEq, ↓reduceIte, reduceCtorEq, ← decide_not, okind, vpre, vpure, intBin, intPre, strBin, strPre, popTo, argSlots, fldV, fldAV, subCells, idxVV, idxAAV, idxSV, sliceV, sliceSV, boundV, szIs, storeOp, storeS, setRowV, eff, extV, buildV, splice, eqSV, fitsL, eqCells, eqCell, minmaxV, capV, binBV, nilCheckV, bytesV, V.cells, V.stays, Orc.nothing])
  exact RetV.pure ((((s2.trans s4).trans s9).trans s14).trans s19) rfl
theorem eq_self_int (a : Int) : (a = a) = True := by simp
end Go.Vc
namespace Go.Vc
open Go.Proofs
theorem between_c' (n a b : Int) : PFun Tryd.prog 42 [vI n, vI a, vI b] (.bool (decide (n ≥ a ∧ n ≤ b))) := fun σ => by
  refine Contract.of_runs Tryd.func42 e42 k42 (by simp [c42]) ?_
  (refine Runs.of_step Orc.nothing 300 ?_; simp -implicitDefEqProofs only [BB, effR_some, effD_some, Int.reduceEq, Int.reduceNe, Int.reduceLT, Int.reduceLE, Int.reduceGT, Int.reduceGE, Nat.reduceEqDiff, Nat.reduceAdd, Nat.reduceMul, Nat.reduceLeDiff, Nat.reduceSub, Nat.reduceLT, Nat.reduceBEq, ↓reduceIte, reduceCtorEq, ← decide_not, okind, vpre, vpure, intBin, intPre, strBin, strPre, popTo, argSlots, fldV, fldAV, subCells, idxVV, idxAAV, idxSV, sliceV, sliceSV, boundV, szIs, storeOp, storeS, setRowV, eff, extV, buildV, splice, eqSV, fitsL, eqCells, eqCell, minmaxV, capV, binBV, nilCheckV, bytesV, V.cells, V.stays, Orc.nothing, c42])
  constructor <;> intro h <;> exact RetV.same (by simp [h])
/-- what 'from' answers -/
def ol1 (f : FuncId) (args : List V) : Option V := if f = 42 then (match args with
  | [.int .i64 n, .int .i64 a, .int .i64 b] => some (.bool (decide (n ≥ a ∧ n ≤ b)))
  | _ => none) else none
def OL1 : Orc Tryd.prog where
  get f args _ := ol1 f args
  ok f args σ v h := by
    unfold ol1 at h
    split at h
    · rename_i hf
      subst hf
      split at h
      · simp only [Option.some.injEq] at h
        subst h
        exact between_c' _ _ _ σ
      · cases h
    · cases h
theorem OL1_67 (n a b : Int) (σ : Store) : OL1.get 42 [.int .i64 n, .int .i64 a, .int .i64 b] σ = some (.bool (decide (n ≥ a ∧ n ≤ b))) := rfl
set_option maxRecDepth 100000 in
theorem lstyled_c (s : Sty) : PFun Tryd.prog 41 [.agg s.cells] (.bool s.ok) := fun σ => by
  refine Contract.of_runs Tryd.func41 e41 k41 (by simp [c41]) ?_
  refine Runs.mix 4 ?_
  (refine Runs.of_step OL1 300 ?_; simp -implicitDefEqProofs only [BB, effR_some, effD_some, Int.reduceEq, Int.reduceNe, Int.reduceLT, Int.reduceLE, Int.reduceGT, Int.reduceGE, Nat.reduceEqDiff, Nat.reduceAdd, Nat.reduceMul, Nat.reduceLeDiff, Nat.reduceSub, Nat.reduceLT, Nat.reduceBEq, ↓reduceIte, reduceCtorEq, ← decide_not, okind, vpre, vpure, intBin, intPre, strBin, strPre, popTo, argSlots, fldV, fldAV, subCells, idxVV, idxAAV, idxSV, sliceV, sliceSV, boundV, szIs, storeOp, storeS, setRowV, eff, extV, buildV, splice, eqSV, fitsL, eqCells, eqCell, minmaxV, capV, binBV, nilCheckV, bytesV, V.cells, V.stays, c41, Sty.cells, OL1_67])
  intro id hid
  repeat' (first
    | with_reducible refine And.intro (fun h => ?_) (fun h => ?_)
    | with_reducible refine RetV.pure ((SubStore.refl σ).upd hid) ?_)
  all_goals simp -implicitDefEqProofs only [BB, effR_some, effD_some, Int.reduceEq, Int.reduceNe, Int.reduceLT, Int.reduceLE, Int.reduceGT, Int.reduceGE, Nat.reduceEqDiff, Nat.reduceAdd, Nat.reduceMul, Nat.reduceLeDiff, Nat.reduceSub, Nat.reduceLT, Nat.reduceBEq, ↓reduceIte, reduceCtorEq, ← decide_not, okind, vpre, vpure, intBin, intPre, strBin, strPre, popTo, argSlots, fldV, fldAV, subCells, idxVV, idxAAV, idxSV, sliceV, sliceSV, boundV, szIs, storeOp, storeS, setRowV, eff, extV, buildV, splice, eqSV, fitsL, eqCells, eqCell, minmaxV, capV, binBV, nilCheckV, bytesV, V.cells, V.stays, Sty.ok, isFrom, mx, V.bool.injEq]
  all_goals (rw [Bool.eq_iff_iff]; simp [*])
set_option maxRecDepth 100000 in
theorem lrows_c (l : List Nd) (hl : l.length ≤ 1000000000000) : ∀ (m a e : Nat), e - a < m → a ≤ e → e ≤ l.length → PFun Tryd.prog 18 [encNs l, vI a, vI e] (.bool (rowsB l a e))
  | 0, _, _, h, _, _ => by omega
  | m + 1, a, e, hm, hae, he => fun σ => by
    refine Contract.of_runs Tryd.func18 e18 k18 (by simp [c18]) ?_
    refine Runs.mix 8 ?_
    (refine Runs.of_step Orc.nothing 300 ?_; simp -implicitDefEqProofs only [BB, effR_some, effD_some, Int.reduceEq, Int.reduceNe, Int.reduceLT, Int.reduceLE, Int.reduceGT, Int.reduceGE, Nat.reduceEqDiff, Nat.reduceAdd, Nat.reduceMul, Nat.reduceLeDiff, Nat.reduceSub, Nat.reduceLT, Nat.reduceBEq, ↓reduceIte, reduceCtorEq, ← decide_not, okind, vpre, vpure, intBin, intPre, strBin, strPre, popTo, argSlots, fldV, fldAV, subCells, idxVV, idxAAV, idxSV, sliceV, sliceSV, boundV, szIs, storeOp, storeS, setRowV, eff, extV, buildV, splice, eqSV, fitsL, eqCells, eqCell, minmaxV, capV, binBV, nilCheckV, bytesV, V.cells, V.stays, Orc.nothing, c18])
    refine Runs.loop (fun mm st => ∃ b : Nat, a ≤ b ∧ b ≤ e ∧ mm = e - b ∧ rowsB l a e = rowsB l b e ∧ SubStore σ st.σ ∧ st.s 0 = encNs l ∧ st.s 1 = vI b ∧ st.s 2 = vI e) (e - a) ?_ ?_
    · exact ⟨a, by omega, by omega, rfl, rfl, SubStore.refl σ, rfl, rfl, rfl⟩
    · rintro mm ⟨s, σ'⟩ ⟨b, hab, hbe, rfl, hr, hsub, h0, h1, h2⟩
      simp only at h0 h1 h2 hsub
      refine Runs.mix 8 ?_
      (refine Runs.of_step Orc.nothing 300 ?_; simp -implicitDefEqProofs only [BB, effR_some, effD_some, Int.reduceEq, Int.reduceNe, Int.reduceLT, Int.reduceLE, Int.reduceGT, Int.reduceGE, Nat.reduceEqDiff, Nat.reduceAdd, Nat.reduceMul, Nat.reduceLeDiff, Nat.reduceSub, Nat.reduceLT, Nat.reduceBEq, ↓reduceIte, reduceCtorEq, ← decide_not, okind, vpre, vpure, intBin, intPre, strBin, strPre, popTo, argSlots, fldV, fldAV, subCells, idxVV, idxAAV, idxSV, sliceV, sliceSV, boundV, szIs, storeOp, storeS, setRowV, eff, extV, buildV, splice, eqSV, fitsL, eqCells, eqCell, minmaxV, capV, binBV, nilCheckV, bytesV, V.cells, V.stays, Orc.nothing, h0, h1, h2, cR_b, Nd.cells])
      refine And.intro (fun hlt => ?_) (fun hge => ?_)
      · have hlt' : b < l.length := by simp at hlt; omega
        simp -implicitDefEqProofs only [BB, effR_some, effD_some, Int.reduceEq, Int.reduceNe, Int.reduceLT, Int.reduceLE, Int.reduceGT, Int.reduceGE, Nat.reduceEqDiff, Nat.reduceAdd, Nat.reduceMul, Nat.reduceLeDiff, Nat.reduceSub, Nat.reduceLT, Nat.reduceBEq, ↓reduceIte, reduceCtorEq, ← decide_not, okind, vpre, vpure, intBin, intPre, strBin, strPre, popTo, argSlots, fldV, fldAV, subCells, idxVV, idxAAV, idxSV, sliceV, sliceSV, boundV, szIs, storeOp, storeS, setRowV, eff, extV, buildV, splice, eqSV, fitsL, eqCells, eqCell, minmaxV, capV, binBV, nilCheckV, bytesV, V.cells, V.stays, idxAV_encNs hlt', h0, h1, h2, cR_b, Nd.cells]
        intro id hid
        have hsub' := hsub.upd hid (o := ⟨37, 20, [.agg (Nd.cells l[b])]⟩)
        have hb : l[b]? = some l[b] := by simp [hlt']
        have hlt2 : b < e := by simp at hlt; omega
        have hR : rowsB l b e = if _hx : 1 ≤ l[b].size ∧ l[b].size ≤ (e : Int) - b then
          (decide (l[b].kind = 1) || decide (l[b].size ≤ 1)) && rowsB l (b + 1) (b + l[b].size.toNat) && rowsB l (b + l[b].size.toNat) e else false := by
          rw [rowsB, dif_pos hlt2, hb]
        refine And.intro (fun hs => ?_) (fun hs => ?_)
        · refine ⟨inR_i64 (by omega) (by omega), And.intro (fun hs2 => ?_) (fun hs2 => ?_)⟩
          · have hx : 1 ≤ l[b].size ∧ l[b].size ≤ (e : Int) - b := by simp at hs hs2; omega
            rw [dif_pos hx] at hR
            have ih := lrows_c l hl m (b + 1) (b + l[b].size.toNat) (by omega) (by omega) (by omega)
            have e2 : ((b + l[b].size.toNat : Nat) : Int) = b + l[b].size := by omega
            rw [e2, Int.natCast_add, Int.natCast_one] at ih
            refine And.intro (fun hk => And.intro (fun hs3 => ?_) (fun hs3 => ?_)) (fun hk => ?_)
            · refine ⟨inR_i64 (by omega) (by omega), inR_i64 (by omega) (by omega), ?_⟩
              refine Runs.pcall rfl rfl rfl (ih _) ?_
              (refine Runs.of_step Orc.nothing 300 ?_; simp -implicitDefEqProofs only [BB, effR_some, effD_some, Int.reduceEq, Int.reduceNe, Int.reduceLT, Int.reduceLE, Int.reduceGT, Int.reduceGE, Nat.reduceEqDiff, Nat.reduceAdd, Nat.reduceMul, Nat.reduceLeDiff, Nat.reduceSub, Nat.reduceLT, Nat.reduceBEq, ↓reduceIte, reduceCtorEq, ← decide_not, okind, vpre, vpure, intBin, intPre, strBin, strPre, popTo, argSlots, fldV, fldAV, subCells, idxVV, idxAAV, idxSV, sliceV, sliceSV, boundV, szIs, storeOp, storeS, setRowV, eff, extV, buildV, splice, eqSV, fitsL, eqCells, eqCell, minmaxV, capV, binBV, nilCheckV, bytesV, V.cells, V.stays, Orc.nothing, h0, h1, h2, cR_b, Nd.cells])
              refine And.intro (fun hf => ?_) (fun hf => ?_)
              · refine RetV.pure hsub' ?_
                simp only [Bool.not_eq_eq_eq_not, Bool.not_true] at hf
                rw [hr, hR, hf]; simp
              · simp only [Bool.not_eq_eq_eq_not, Bool.not_false] at hf
                refine ⟨inR_i64 (by omega) (by omega), _, ?_, b + l[b].size.toNat, by omega, by omega, rfl, ?_, hsub', ?_⟩
                · omega
                · rw [hr, hR, hf]; simp; omega
                · rw [e2]
            · refine RetV.pure hsub' ?_
              rw [hr, hR]
              have : ¬ l[b].size ≤ 1 := by (have h9 : l[b].size ≠ 1 := by simpa using hs3); omega
              simp [hk, this]
            · refine ⟨inR_i64 (by omega) (by omega), inR_i64 (by omega) (by omega), ?_⟩
              refine Runs.pcall rfl rfl rfl (ih _) ?_
              (refine Runs.of_step Orc.nothing 300 ?_; simp -implicitDefEqProofs only [BB, effR_some, effD_some, Int.reduceEq, Int.reduceNe, Int.reduceLT, Int.reduceLE, Int.reduceGT, Int.reduceGE, Nat.reduceEqDiff, Nat.reduceAdd, Nat.reduceMul, Nat.reduceLeDiff, Nat.reduceSub, Nat.reduceLT, Nat.reduceBEq, ↓reduceIte, reduceCtorEq, ← decide_not, okind, vpre, vpure, intBin, intPre, strBin, strPre, popTo, argSlots, fldV, fldAV, subCells, idxVV, idxAAV, idxSV, sliceV, sliceSV, boundV, szIs, storeOp, storeS, setRowV, eff, extV, buildV, splice, eqSV, fitsL, eqCells, eqCell, minmaxV, capV, binBV, nilCheckV, bytesV, V.cells, V.stays, Orc.nothing, h0, h1, h2, cR_b, Nd.cells])
              refine And.intro (fun hf => ?_) (fun hf => ?_)
              · refine RetV.pure hsub' ?_
                simp only [Bool.not_eq_eq_eq_not, Bool.not_true] at hf
                rw [hr, hR, hf]; simp
              · simp only [Bool.not_eq_eq_eq_not, Bool.not_false] at hf
                refine ⟨inR_i64 (by omega) (by omega), _, ?_, b + l[b].size.toNat, by omega, by omega, rfl, ?_, hsub', ?_⟩
                · omega
                · rw [hr, hR, hf]; simp; omega
                · rw [e2]
          · refine RetV.pure hsub' ?_
            rw [hr, hR, dif_neg (by omega)]
        · refine RetV.pure hsub' ?_
          rw [hr, hR, dif_neg (by omega)]
      · have : b = e := by simp at hge; omega
        subst this
        refine RetV.pure hsub ?_
        rw [hr, rowsB]
        simp
end Go.Vc
namespace Go.Vc
open Go.Proofs
def ol4 (f : FuncId) (args : List V) : Option V := if f = 42 then (match args with
  | [.int .i64 n, .int .i64 a, .int .i64 b] => some (.bool (decide (n ≥ a ∧ n ≤ b)))
  | _ => none) else if f = 41 then (match args with
  | [.agg [.int .i64 a, .int .i64 b, .int .i64 c, .int .i64 d, .int .i64 e, .int .i64 f, .int .i64 g, .int .i64 h, .int .i64 i, .int .i64 j, .int .i64 k, .int .i64 l]] => some (.bool (Sty.ok ⟨a, b, c, d, e, f, g, h, i, j, k, l⟩))
  | _ => none) else none
def OL4 : Orc Tryd.prog where
  get f args _ := ol4 f args
  ok f args σ v h := by
    unfold ol4 at h
    split at h
    · rename_i hf
      subst hf
      split at h
      · simp only [Option.some.injEq] at h
        subst h
        exact between_c' _ _ _ σ
      · cases h
    · split at h
      · rename_i hf
        subst hf
        split at h
        · simp only [Option.some.injEq] at h
          subst h
          exact lstyled_c ⟨_, _, _, _, _, _, _, _, _, _, _, _⟩ σ
        · cases h
      · cases h
theorem OL4_b (n a b : Int) (σ : Store) : OL4.get 42 [.int .i64 n, .int .i64 a, .int .i64 b] σ = some (.bool (decide (n ≥ a ∧ n ≤ b))) := rfl
theorem OL4_s (a b c d e f g h i j k l : Int) (σ : Store) : OL4.get 41 [.agg [.int .i64 a, .int .i64 b, .int .i64 c, .int .i64 d, .int .i64 e, .int .i64 f, .int .i64 g, .int .i64 h, .int .i64 i, .int .i64 j, .int .i64 k, .int .i64 l]] σ =
  some (.bool (Sty.ok ⟨a, b, c, d, e, f, g, h, i, j, k, l⟩)) := rfl
set_option maxRecDepth 100000 in
theorem lfits_c (x : Nd) (hl : x.words.length ≤ 200000000000000) : PFun Tryd.prog 17 [encN x] (.bool x.ok) := fun σ => by
  refine Contract.of_runs Tryd.func17 e17 k17 (by simp [c17]) ?_
  refine Runs.mix 5 ?_
  have hz : x.st = Sty.zero ↔ (x.st.top = 0 ∧ x.st.bottom = 0 ∧ x.st.padTop = 0 ∧ x.st.padBottom = 0 ∧ x.st.inset = 0 ∧ x.st.orphans = 0 ∧ x.st.widows = 0 ∧ x.st.head = 0 ∧ x.st.before = 0 ∧ x.st.after = 0 ∧ x.st.inside = 0 ∧ x.st.clear = 0) := by
    cases h : x.st; simp [Sty.zero]
  by_cases k1 : x.kind = 1
  · have n1 : (x.kind ≠ 1) = False := by simp [k1]
    have n1' : (x.kind = 1) = True := by simp [k1]
    have n2 : (x.kind ≠ 2) = True := by simp [k1]
    have hok : x.ok = (x.st.ok && decide (x.line = 0) && decide (x.space = 0) && decide (x.words.length = 0) && decide (x.side = 0) && decide (x.w = 0) && decide (x.h = 0)) := by simp [Nd.ok, k1]
    rw [hok]
    (refine Runs.of_step OL4 300 ?_; simp -implicitDefEqProofs only [BB, effR_some, effD_some, Int.reduceEq, Int.reduceNe, Int.reduceLT, Int.reduceLE, Int.reduceGT, Int.reduceGE, Nat.reduceEqDiff, Nat.reduceAdd, Nat.reduceMul, Nat.reduceLeDiff, Nat.reduceSub, Nat.reduceLT, Nat.reduceBEq, ↓reduceIte, reduceCtorEq, ← decide_not, okind, vpre, vpure, intBin, intPre, strBin, strPre, popTo, argSlots, fldV, fldAV, subCells, idxVV, idxAAV, idxSV, sliceV, sliceSV, boundV, szIs, storeOp, storeS, setRowV, eff, extV, buildV, splice, eqSV, fitsL, eqCells, eqCell, minmaxV, capV, binBV, nilCheckV, bytesV, V.cells, V.stays, c17, encN, Nd.cells, OL4_b, OL4_s, n1, n1', n2, cR_b, dec_true (Sty.ok _), lenV_encI])
    intro id hid
    repeat' (first
      | with_reducible refine And.intro (fun h => ?_) (fun h => ?_)
      | with_reducible refine RetV.pure ((SubStore.refl σ).upd hid) ?_)
    all_goals simp -implicitDefEqProofs only [BB, effR_some, effD_some, Int.reduceEq, Int.reduceNe, Int.reduceLT, Int.reduceLE, Int.reduceGT, Int.reduceGE, Nat.reduceEqDiff, Nat.reduceAdd, Nat.reduceMul, Nat.reduceLeDiff, Nat.reduceSub, Nat.reduceLT, Nat.reduceBEq, ↓reduceIte, reduceCtorEq, ← decide_not, okind, vpre, vpure, intBin, intPre, strBin, strPre, popTo, argSlots, fldV, fldAV, subCells, idxVV, idxAAV, idxSV, sliceV, sliceSV, boundV, szIs, storeOp, storeS, setRowV, eff, extV, buildV, splice, eqSV, fitsL, eqCells, eqCell, minmaxV, capV, binBV, nilCheckV, bytesV, V.cells, V.stays, V.bool.injEq]
    all_goals (rw [Bool.eq_iff_iff]; simp_all)
  · have n1 : (x.kind ≠ 1) = True := by simp [k1]
    have n1' : (x.kind = 1) = False := by simp [k1]
    have heq : ∀ b, decide (x.st = Sty.zero) = b → eqSV true [0, 0, 0, 0, 0, 0, 0, 0, 0, 0, 0, 0] (.agg [.int .i64 x.st.top, .int .i64 x.st.bottom, .int .i64 x.st.padTop, .int .i64 x.st.padBottom, .int .i64 x.st.inset, .int .i64 x.st.orphans, .int .i64 x.st.widows, .int .i64 x.st.head, .int .i64 x.st.before, .int .i64 x.st.after, .int .i64 x.st.inside, .int .i64 x.st.clear])
        (.agg [.int .i64 0, .int .i64 0, .int .i64 0, .int .i64 0, .int .i64 0, .int .i64 0, .int .i64 0, .int .i64 0, .int .i64 0, .int .i64 0, .int .i64 0, .int .i64 0]) = some (.bool (!b)) := by
      intro b hb
      rw [← hb]
      simp only [eqSV, fitsL, eqCells, eqCell, List.length_cons, List.length_nil, if_true, and_self, Bool.and_true, Option.some.injEq, V.bool.injEq]
      rw [Bool.eq_iff_iff]
      simp [hz]
    by_cases hs : x.st = Sty.zero
    · have heq := heq true (by simp [hs])
      by_cases k2 : x.kind = 2
      · have n2 : (x.kind ≠ 2) = False := by simp [k2]
        have n2' : (x.kind = 2) = True := by simp [k2]
        have hok : x.ok = (x.words.all (isFrom · 1 mx) && decide (0 < x.words.length) && isFrom x.line 1 mx && isFrom x.space 0 mx && decide (x.side = 0) && decide (x.w = 0) && decide (x.h = 0)) := by simp [Nd.ok, k2, hs]
        (refine Runs.of_step OL4 300 ?_; simp -implicitDefEqProofs only [BB, effR_some, effD_some, Int.reduceEq, Int.reduceNe, Int.reduceLT, Int.reduceLE, Int.reduceGT, Int.reduceGE, Nat.reduceEqDiff, Nat.reduceAdd, Nat.reduceMul, Nat.reduceLeDiff, Nat.reduceSub, Nat.reduceLT, Nat.reduceBEq, ↓reduceIte, reduceCtorEq, ← decide_not, okind, vpre, vpure, intBin, intPre, strBin, strPre, popTo, argSlots, fldV, fldAV, subCells, idxVV, idxAAV, idxSV, sliceV, sliceSV, boundV, szIs, storeOp, storeS, setRowV, eff, extV, buildV, splice, fitsL, eqCells, eqCell, minmaxV, capV, binBV, nilCheckV, bytesV, V.cells, V.stays, c17, encN, Nd.cells, OL4_b, OL4_s, n1, n1', n2, n2', heq, cR_b, lenV_encI])
        intro id hid
        refine Runs.loop (fun m st => ∃ i : Nat, i ≤ x.words.length ∧ m = x.words.length - i ∧ (x.words.take i).all (isFrom · 1 mx) = true ∧ st.σ = upd σ id ⟨37, 20, [encN x]⟩ ∧ st.s 1 = .ptr id 0 0 ∧ st.s 3 = vI mx ∧ st.s 4 = vI i) x.words.length ?_ ?_
        · exact ⟨0, by omega, by omega, by simp, rfl, rfl, rfl, rfl⟩
        · rintro m ⟨s, σ'⟩ ⟨i, hi, rfl, hp, hσ, h1, h3, h4⟩
          simp only at h1 h3 h4 hσ
          subst hσ
          refine Runs.mix 5 ?_
          (refine Runs.of_step OL4 300 ?_; simp -implicitDefEqProofs only [BB, effR_some, effD_some, Int.reduceEq, Int.reduceNe, Int.reduceLT, Int.reduceLE, Int.reduceGT, Int.reduceGE, Nat.reduceEqDiff, Nat.reduceAdd, Nat.reduceMul, Nat.reduceLeDiff, Nat.reduceSub, Nat.reduceLT, Nat.reduceBEq, ↓reduceIte, reduceCtorEq, ← decide_not, okind, vpre, vpure, intBin, intPre, strBin, strPre, popTo, argSlots, fldV, fldAV, subCells, idxVV, idxAAV, idxSV, sliceV, sliceSV, boundV, szIs, storeOp, storeS, setRowV, eff, extV, buildV, splice, eqSV, fitsL, eqCells, eqCell, minmaxV, capV, binBV, nilCheckV, bytesV, V.cells, V.stays, h1, h3, h4, encN, Nd.cells, OL4_b, cR_b, lenV_encI, mx])
          refine And.intro (fun hlt => ?_) (fun hge => ?_)
          · have hlt' : i < x.words.length := by omega
            have ht := all_take (isFrom · 1 mx) x.words i hlt'
            rw [hp, Bool.true_and] at ht
            simp -implicitDefEqProofs only [BB, effR_some, effD_some, Int.reduceEq, Int.reduceNe, Int.reduceLT, Int.reduceLE, Int.reduceGT, Int.reduceGE, Nat.reduceEqDiff, Nat.reduceAdd, Nat.reduceMul, Nat.reduceLeDiff, Nat.reduceSub, Nat.reduceLT, Nat.reduceBEq, ↓reduceIte, reduceCtorEq, ← decide_not, okind, vpre, vpure, intBin, intPre, strBin, strPre, popTo, argSlots, fldV, fldAV, subCells, idxVV, idxAAV, idxSV, sliceV, sliceSV, boundV, szIs, storeOp, storeS, setRowV, eff, extV, buildV, splice, eqSV, fitsL, eqCells, eqCell, minmaxV, capV, binBV, nilCheckV, bytesV, V.cells, V.stays, idxAV_encI hlt', OL4_b, h1, h3, h4, mx, cR_b]
            refine And.intro (fun hw => ?_) (fun hw => ?_)
            · refine RetV.pure ((SubStore.refl σ).upd hid) ?_
              have hw' : isFrom x.words[i] 1 mx = false := by simp at hw; simp [isFrom, mx]; omega
              rw [hok]
              have : (x.words.all (isFrom · 1 mx)) = false := by
                rw [List.all_eq_false]
                exact ⟨_, List.getElem_mem hlt', by simp [hw']⟩
              simp [this]
            · have hw' : isFrom x.words[i] 1 mx = true := by simp at hw; simp [isFrom, mx]; omega
              refine ⟨inR_i64 (by omega) (by omega), _, ?_, i + 1, by omega, rfl, ?_, ?_⟩
              · omega
              · rw [← mx, ht]; exact hw'
              · simp
          · have hi' : i = x.words.length := by simp at hge; omega
            subst hi'
            rw [List.take_length] at hp
            rw [hok, hp]
            repeat' (first
              | with_reducible refine And.intro (fun h => ?_) (fun h => ?_)
              | with_reducible refine RetV.pure ((SubStore.refl σ).upd hid) ?_)
            all_goals try simp -implicitDefEqProofs only [BB, effR_some, effD_some, Int.reduceEq, Int.reduceNe, Int.reduceLT, Int.reduceLE, Int.reduceGT, Int.reduceGE, Nat.reduceEqDiff, Nat.reduceAdd, Nat.reduceMul, Nat.reduceLeDiff, Nat.reduceSub, Nat.reduceLT, Nat.reduceBEq, ↓reduceIte, reduceCtorEq, ← decide_not, okind, vpre, vpure, intBin, intPre, strBin, strPre, popTo, argSlots, fldV, fldAV, subCells, idxVV, idxAAV, idxSV, sliceV, sliceSV, boundV, szIs, storeOp, storeS, setRowV, eff, extV, buildV, splice, eqSV, fitsL, eqCells, eqCell, minmaxV, capV, binBV, nilCheckV, bytesV, V.cells, V.stays, V.bool.injEq]
            all_goals (rw [Bool.eq_iff_iff]; simp_all [isFrom, mx] <;> omega)
      · have n2 : (x.kind ≠ 2) = True := by simp [k2]
        have n2' : (x.kind = 2) = False := by simp [k2]
        have hok : x.ok = (decide (x.line = 0) && decide (x.space = 0) && decide (x.words.length = 0) && isFrom x.w 1 mx && isFrom x.h 1 mx &&
          (decide (x.kind = 3) && decide (x.side = 0) || decide (x.kind = 4) && isFrom x.side 1 2)) := by simp [Nd.ok, k1, k2, hs]
        rw [hok]
        (refine Runs.of_step OL4 300 ?_; simp -implicitDefEqProofs only [BB, effR_some, effD_some, Int.reduceEq, Int.reduceNe, Int.reduceLT, Int.reduceLE, Int.reduceGT, Int.reduceGE, Nat.reduceEqDiff, Nat.reduceAdd, Nat.reduceMul, Nat.reduceLeDiff, Nat.reduceSub, Nat.reduceLT, Nat.reduceBEq, ↓reduceIte, reduceCtorEq, ← decide_not, okind, vpre, vpure, intBin, intPre, strBin, strPre, popTo, argSlots, fldV, fldAV, subCells, idxVV, idxAAV, idxSV, sliceV, sliceSV, boundV, szIs, storeOp, storeS, setRowV, eff, extV, buildV, splice, fitsL, eqCells, eqCell, minmaxV, capV, binBV, nilCheckV, bytesV, V.cells, V.stays, c17, encN, Nd.cells, OL4_b, OL4_s, n1, n1', n2, n2', heq, cR_b, lenV_encI])
        intro id hid
        repeat' (first
          | with_reducible refine And.intro (fun h => ?_) (fun h => ?_)
          | with_reducible refine RetV.pure ((SubStore.refl σ).upd hid) ?_)
        all_goals try simp -implicitDefEqProofs only [BB, effR_some, effD_some, Int.reduceEq, Int.reduceNe, Int.reduceLT, Int.reduceLE, Int.reduceGT, Int.reduceGE, Nat.reduceEqDiff, Nat.reduceAdd, Nat.reduceMul, Nat.reduceLeDiff, Nat.reduceSub, Nat.reduceLT, Nat.reduceBEq, ↓reduceIte, reduceCtorEq, ← decide_not, okind, vpre, vpure, intBin, intPre, strBin, strPre, popTo, argSlots, fldV, fldAV, subCells, idxVV, idxAAV, idxSV, sliceV, sliceSV, boundV, szIs, storeOp, storeS, setRowV, eff, extV, buildV, splice, eqSV, fitsL, eqCells, eqCell, minmaxV, capV, binBV, nilCheckV, bytesV, V.cells, V.stays, V.bool.injEq]
        all_goals (rw [Bool.eq_iff_iff]; simp_all [isFrom, mx] <;> omega)
    · have heq := heq false (by simp [hs])
      have hok : x.ok = false := by simp [Nd.ok, k1, hs]
      rw [hok]
      (refine Runs.of_step OL4 300 ?_; simp -implicitDefEqProofs only [BB, effR_some, effD_some, Int.reduceEq, Int.reduceNe, Int.reduceLT, Int.reduceLE, Int.reduceGT, Int.reduceGE, Nat.reduceEqDiff, Nat.reduceAdd, Nat.reduceMul, Nat.reduceLeDiff, Nat.reduceSub, Nat.reduceLT, Nat.reduceBEq, ↓reduceIte, reduceCtorEq, ← decide_not, okind, vpre, vpure, intBin, intPre, strBin, strPre, popTo, argSlots, fldV, fldAV, subCells, idxVV, idxAAV, idxSV, sliceV, sliceSV, boundV, szIs, storeOp, storeS, setRowV, eff, extV, buildV, splice, fitsL, eqCells, eqCell, minmaxV, capV, binBV, nilCheckV, bytesV, V.cells, V.stays, c17, encN, Nd.cells, OL4_b, OL4_s, n1, heq, cR_b, lenV_encI])
      intro id hid
      exact RetV.pure ((SubStore.refl σ).upd hid) rfl
end Go.Vc
namespace Go.Vc
open Go.Proofs
theorem ne_self_int (a : Int) : (a ≠ a) = False := by simp
end Go.Vc
namespace Go.Vc
open Go.Proofs
theorem take_len (s : List UInt8) (p : Nat) : (s.take p).length ≤ s.length := by simp; omega
set_option maxRecDepth 100000 in
theorem readRows_c (s : List UInt8) : PFun Tryd.prog 4 [.str s] (.bool true) := fun σ => by
  refine Contract.of_runs Tryd.func4 e4 k4 (by simp [c4]) ?_
  refine Runs.mix 13 ?_
  by_cases hs : s.length > 3000
  · have q1 : ((s.length : Int) > 3000) = True := by simp; omega
    (refine Runs.of_step Orc.nothing 300 ?_; simp -implicitDefEqProofs only [BB, Int.reduceEq, Int.reduceNe, Int.reduceLT, Int.reduceLE, Int.reduceGT, Int.reduceGE, Nat.reduceEqDiff, Nat.reduceAdd, Nat.reduceMul, Nat.reduceLeDiff, Nat.reduceSub, Nat.reduceLT, Nat.reduceBEq, ↓reduceIte, reduceCtorEq, ← decide_not, okind, vpre, vpure, intBin, intPre, strBin, strPre, popTo, argSlots, fldV, fldAV, subCells, idxVV, idxAAV, idxSV, sliceV, sliceSV, boundV, szIs, storeOp, storeS, setRowV, eff, extV, buildV, splice, eqSV, fitsL, eqCells, eqCell, minmaxV, capV, binBV, nilCheckV, bytesV, V.cells, V.stays, Orc.nothing, c4, q1])
    refine Runs.pcall rfl rfl rfl (awake5_c _) ?_
    (refine Runs.of_step Orc.nothing 300 ?_; simp -implicitDefEqProofs only [BB, Int.reduceEq, Int.reduceNe, Int.reduceLT, Int.reduceLE, Int.reduceGT, Int.reduceGE, Nat.reduceEqDiff, Nat.reduceAdd, Nat.reduceMul, Nat.reduceLeDiff, Nat.reduceSub, Nat.reduceLT, Nat.reduceBEq, ↓reduceIte, reduceCtorEq, ← decide_not, okind, vpre, vpure, intBin, intPre, strBin, strPre, popTo, argSlots, fldV, fldAV, subCells, idxVV, idxAAV, idxSV, sliceV, sliceSV, boundV, szIs, storeOp, storeS, setRowV, eff, extV, buildV, splice, eqSV, fitsL, eqCells, eqCell, minmaxV, capV, binBV, nilCheckV, bytesV, V.cells, V.stays, Orc.nothing])
    exact RetV.same rfl
  · have q1 : ((s.length : Int) > 3000) = False := by simp; omega
    (refine Runs.of_step Orc.nothing 300 ?_; simp -implicitDefEqProofs only [BB, Int.reduceEq, Int.reduceNe, Int.reduceLT, Int.reduceLE, Int.reduceGT, Int.reduceGE, Nat.reduceEqDiff, Nat.reduceAdd, Nat.reduceMul, Nat.reduceLeDiff, Nat.reduceSub, Nat.reduceLT, Nat.reduceBEq, ↓reduceIte, reduceCtorEq, ← decide_not, okind, vpre, vpure, intBin, intPre, strBin, strPre, popTo, argSlots, fldV, fldAV, subCells, idxVV, idxAAV, idxSV, sliceV, sliceSV, boundV, szIs, storeOp, storeS, setRowV, eff, extV, buildV, splice, eqSV, fitsL, eqCells, eqCell, minmaxV, capV, binBV, nilCheckV, bytesV, V.cells, V.stays, Orc.nothing, c4, q1])
    refine Runs.pcall rfl rfl rfl (readOf_c s (by omega) _) ?_
    have hf := readR_fine (s := s) (n := 3000) (by omega)
    have hok := @readR_isB s
    have hbad := @readR_bad s
    have hcut := @readR_cut s
    generalize hr : readR s = r at *
    obtain ⟨l, p, e⟩ := r
    simp only [readV] at *
    by_cases he : e = 0
    · subst he
      have hB := hok rfl
      clear hok hbad hcut
      simp only [isB, Bool.and_eq_true] at hB
      obtain ⟨h1, h2⟩ := hB
      have h1 : ∀ x ∈ l, x.ok = true := List.all_eq_true.1 h1
      (refine Runs.of_step Orc.nothing 300 ?_; simp -implicitDefEqProofs only [BB, Int.reduceEq, Int.reduceNe, Int.reduceLT, Int.reduceLE, Int.reduceGT, Int.reduceGE, Nat.reduceEqDiff, Nat.reduceAdd, Nat.reduceMul, Nat.reduceLeDiff, Nat.reduceSub, Nat.reduceLT, Nat.reduceBEq, ↓reduceIte, reduceCtorEq, ← decide_not, okind, vpre, vpure, intBin, intPre, strBin, strPre, popTo, argSlots, fldV, fldAV, subCells, idxVV, idxAAV, idxSV, sliceV, sliceSV, boundV, szIs, storeOp, storeS, setRowV, eff, extV, buildV, splice, eqSV, fitsL, eqCells, eqCell, minmaxV, capV, binBV, nilCheckV, bytesV, V.cells, V.stays, Orc.nothing])
      refine Runs.loop (fun m st => ∃ i : Nat, i ≤ l.length ∧ m = l.length - i ∧ st.σ = σ ∧ st.s 3 = encNs l ∧ st.s 12 = vI i) l.length ⟨0, by omega, by omega, rfl, rfl, rfl⟩ ?_
      rintro m ⟨S, σ'⟩ ⟨i, hi, rfl, hσ, h3, h12⟩
      simp only at hσ h3 h12
      subst hσ
      refine Runs.mix 13 ?_
      by_cases hlt : i < l.length
      · have hlt' : ((i : Int) < (l.length : Int)) = True := by simp; omega
        have hin : inR .i64 ((i : Int) + 1) := inR_i64 (by omega) (by omega)
        have hix := fun σ => idxAV_encNs (σ := σ) hlt
        have hx := h1 _ (List.getElem_mem hlt)
        have hxw := hf.2 _ (List.getElem_mem hlt)
        (refine Runs.of_step Orc.nothing 300 ?_; simp -implicitDefEqProofs only [BB, Int.reduceEq, Int.reduceNe, Int.reduceLT, Int.reduceLE, Int.reduceGT, Int.reduceGE, Nat.reduceEqDiff, Nat.reduceAdd, Nat.reduceMul, Nat.reduceLeDiff, Nat.reduceSub, Nat.reduceLT, Nat.reduceBEq, ↓reduceIte, reduceCtorEq, ← decide_not, okind, vpre, vpure, intBin, intPre, strBin, strPre, popTo, argSlots, fldV, fldAV, subCells, idxVV, idxAAV, idxSV, sliceV, sliceSV, boundV, szIs, storeOp, storeS, setRowV, eff, extV, buildV, splice, eqSV, fitsL, eqCells, eqCell, minmaxV, capV, binBV, nilCheckV, bytesV, V.cells, V.stays, Orc.nothing, h3, h12, lenV_encNs, hlt', hix, loadV_rp_node])
        refine Runs.pcall rfl rfl rfl (lfits_c l[i] (by omega) _) ?_
        rw [hx]
        (refine Runs.of_step Orc.nothing 300 ?_; simp -implicitDefEqProofs only [BB, Int.reduceEq, Int.reduceNe, Int.reduceLT, Int.reduceLE, Int.reduceGT, Int.reduceGE, Nat.reduceEqDiff, Nat.reduceAdd, Nat.reduceMul, Nat.reduceLeDiff, Nat.reduceSub, Nat.reduceLT, Nat.reduceBEq, ↓reduceIte, reduceCtorEq, ← decide_not, okind, vpre, vpure, intBin, intPre, strBin, strPre, popTo, argSlots, fldV, fldAV, subCells, idxVV, idxAAV, idxSV, sliceV, sliceSV, boundV, szIs, storeOp, storeS, setRowV, eff, extV, buildV, splice, eqSV, fitsL, eqCells, eqCell, minmaxV, capV, binBV, nilCheckV, bytesV, V.cells, V.stays, Orc.nothing, h3, h12, hin])
        exact ⟨_, by omega, i + 1, by omega, rfl, by simp⟩
      · have hlt' : ((i : Int) < (l.length : Int)) = False := by simp; omega
        (refine Runs.of_step Orc.nothing 300 ?_; simp -implicitDefEqProofs only [BB, Int.reduceEq, Int.reduceNe, Int.reduceLT, Int.reduceLE, Int.reduceGT, Int.reduceGE, Nat.reduceEqDiff, Nat.reduceAdd, Nat.reduceMul, Nat.reduceLeDiff, Nat.reduceSub, Nat.reduceLT, Nat.reduceBEq, ↓reduceIte, reduceCtorEq, ← decide_not, okind, vpre, vpure, intBin, intPre, strBin, strPre, popTo, argSlots, fldV, fldAV, subCells, idxVV, idxAAV, idxSV, sliceV, sliceSV, boundV, szIs, storeOp, storeS, setRowV, eff, extV, buildV, splice, eqSV, fitsL, eqCells, eqCell, minmaxV, capV, binBV, nilCheckV, bytesV, V.cells, V.stays, Orc.nothing, h3, h12, lenV_encNs, hlt'])
        have hrows := lrows_c l (by omega) (l.length + 1) 0 l.length (by omega) (by omega) (Nat.le_refl _) σ'
        rw [h2] at hrows
        refine Runs.pcall rfl rfl rfl hrows ?_
        (refine Runs.of_step Orc.nothing 300 ?_; simp -implicitDefEqProofs only [BB, Int.reduceEq, Int.reduceNe, Int.reduceLT, Int.reduceLE, Int.reduceGT, Int.reduceGE, Nat.reduceEqDiff, Nat.reduceAdd, Nat.reduceMul, Nat.reduceLeDiff, Nat.reduceSub, Nat.reduceLT, Nat.reduceBEq, ↓reduceIte, reduceCtorEq, ← decide_not, okind, vpre, vpure, intBin, intPre, strBin, strPre, popTo, argSlots, fldV, fldAV, subCells, idxVV, idxAAV, idxSV, sliceV, sliceSV, boundV, szIs, storeOp, storeS, setRowV, eff, extV, buildV, splice, eqSV, fitsL, eqCells, eqCell, minmaxV, capV, binBV, nilCheckV, bytesV, V.cells, V.stays, Orc.nothing])
        refine Runs.pcall rfl rfl rfl (awake5_c _) ?_
        (refine Runs.of_step Orc.nothing 300 ?_; simp -implicitDefEqProofs only [BB, Int.reduceEq, Int.reduceNe, Int.reduceLT, Int.reduceLE, Int.reduceGT, Int.reduceGE, Nat.reduceEqDiff, Nat.reduceAdd, Nat.reduceMul, Nat.reduceLeDiff, Nat.reduceSub, Nat.reduceLT, Nat.reduceBEq, ↓reduceIte, reduceCtorEq, ← decide_not, okind, vpre, vpure, intBin, intPre, strBin, strPre, popTo, argSlots, fldV, fldAV, subCells, idxVV, idxAAV, idxSV, sliceV, sliceSV, boundV, szIs, storeOp, storeS, setRowV, eff, extV, buildV, splice, eqSV, fitsL, eqCells, eqCell, minmaxV, capV, binBV, nilCheckV, bytesV, V.cells, V.stays, Orc.nothing])
        exact RetV.same rfl
    · obtain ⟨b1, b2, b3, b4⟩ := hbad he
      subst b1 b2
      have q2 : ((p : Int) < 0) = False := by simp; omega
      have q3 : ((p : Int) > (s.length : Int)) = False := by simp; omega
      (refine Runs.of_step Orc.nothing 300 ?_; simp -implicitDefEqProofs only [BB, Int.reduceEq, Int.reduceNe, Int.reduceLT, Int.reduceLE, Int.reduceGT, Int.reduceGE, Nat.reduceEqDiff, Nat.reduceAdd, Nat.reduceMul, Nat.reduceLeDiff, Nat.reduceSub, Nat.reduceLT, Nat.reduceBEq, ↓reduceIte, reduceCtorEq, ← decide_not, okind, vpre, vpure, intBin, intPre, strBin, strPre, popTo, argSlots, fldV, fldAV, subCells, idxVV, idxAAV, idxSV, sliceV, sliceSV, boundV, szIs, storeOp, storeS, setRowV, eff, extV, buildV, splice, eqSV, fitsL, eqCells, eqCell, minmaxV, capV, binBV, nilCheckV, bytesV, V.cells, V.stays, Orc.nothing, lenV_encNs, Int.natCast_zero, ne_self_int, q2, q3])
      refine Runs.pcall rfl rfl rfl (of_lex s (by omega) _) ?_
      cases hl : ofI s false 0 with
      | bad q =>
        (refine Runs.of_step Orc.nothing 300 ?_; simp -implicitDefEqProofs only [BB, Int.reduceEq, Int.reduceNe, Int.reduceLT, Int.reduceLE, Int.reduceGT, Int.reduceGE, Nat.reduceEqDiff, Nat.reduceAdd, Nat.reduceMul, Nat.reduceLeDiff, Nat.reduceSub, Nat.reduceLT, Nat.reduceBEq, ↓reduceIte, reduceCtorEq, ← decide_not, okind, vpre, vpure, intBin, intPre, strBin, strPre, popTo, argSlots, fldV, fldAV, subCells, idxVV, idxAAV, idxSV, sliceV, sliceSV, boundV, szIs, storeOp, storeS, setRowV, eff, extV, buildV, splice, eqSV, fitsL, eqCells, eqCell, minmaxV, capV, binBV, nilCheckV, bytesV, V.cells, V.stays, Orc.nothing, resT])
        refine Runs.pcall rfl rfl rfl (awake5_c _) ?_
        (refine Runs.of_step Orc.nothing 300 ?_; simp -implicitDefEqProofs only [BB, Int.reduceEq, Int.reduceNe, Int.reduceLT, Int.reduceLE, Int.reduceGT, Int.reduceGE, Nat.reduceEqDiff, Nat.reduceAdd, Nat.reduceMul, Nat.reduceLeDiff, Nat.reduceSub, Nat.reduceLT, Nat.reduceBEq, ↓reduceIte, reduceCtorEq, ← decide_not, okind, vpre, vpure, intBin, intPre, strBin, strPre, popTo, argSlots, fldV, fldAV, subCells, idxVV, idxAAV, idxSV, sliceV, sliceSV, boundV, szIs, storeOp, storeS, setRowV, eff, extV, buildV, splice, eqSV, fitsL, eqCells, eqCell, minmaxV, capV, binBV, nilCheckV, bytesV, V.cells, V.stays, Orc.nothing])
        exact RetV.same rfl
      | ok toks =>
        have hc := hcut hl he
        obtain ⟨pn, rfl⟩ : ∃ pn : Nat, p = pn := ⟨p.toNat, by omega⟩
        rw [Int.toNat_natCast] at hc
        have hsl : sliceSV (.str s) none (some (.int .i64 (pn : Int))) = some (.str (s.take pn)) := by
          simp only [sliceSV, boundV]
          rw [if_pos ⟨by omega, by omega, by omega⟩]
          simp
        (refine Runs.of_step Orc.nothing 300 ?_; simp -implicitDefEqProofs only [BB, Int.reduceEq, Int.reduceNe, Int.reduceLT, Int.reduceLE, Int.reduceGT, Int.reduceGE, Nat.reduceEqDiff, Nat.reduceAdd, Nat.reduceMul, Nat.reduceLeDiff, Nat.reduceSub, Nat.reduceLT, Nat.reduceBEq, ↓reduceIte, reduceCtorEq, ← decide_not, okind, vpre, vpure, intBin, intPre, strBin, strPre, popTo, argSlots, fldV, fldAV, subCells, idxVV, idxAAV, idxSV, sliceV, boundV, szIs, storeOp, storeS, setRowV, eff, extV, buildV, splice, eqSV, fitsL, eqCells, eqCell, minmaxV, capV, binBV, nilCheckV, bytesV, V.cells, V.stays, Orc.nothing, resT, ne_self_int, hsl])
        refine Runs.pcall rfl rfl rfl (readOf_c (s.take pn) (by have := take_len s pn; omega) _) ?_
        generalize readR (s.take pn) = r2 at *
        obtain ⟨l2, p2, e2⟩ := r2
        simp only [readV] at *
        by_cases h0 : e2 = 0
        · subst h0
          (refine Runs.of_step Orc.nothing 300 ?_; simp -implicitDefEqProofs only [BB, Int.reduceEq, Int.reduceNe, Int.reduceLT, Int.reduceLE, Int.reduceGT, Int.reduceGE, Nat.reduceEqDiff, Nat.reduceAdd, Nat.reduceMul, Nat.reduceLeDiff, Nat.reduceSub, Nat.reduceLT, Nat.reduceBEq, ↓reduceIte, reduceCtorEq, ← decide_not, okind, vpre, vpure, intBin, intPre, strBin, strPre, popTo, argSlots, fldV, fldAV, subCells, idxVV, idxAAV, idxSV, sliceV, sliceSV, boundV, szIs, storeOp, storeS, setRowV, eff, extV, buildV, splice, eqSV, fitsL, eqCells, eqCell, minmaxV, capV, binBV, nilCheckV, bytesV, V.cells, V.stays, Orc.nothing])
          refine Runs.pcall rfl rfl rfl (awake5_c _) ?_
          (refine Runs.of_step Orc.nothing 300 ?_; simp -implicitDefEqProofs only [BB, Int.reduceEq, Int.reduceNe, Int.reduceLT, Int.reduceLE, Int.reduceGT, Int.reduceGE, Nat.reduceEqDiff, Nat.reduceAdd, Nat.reduceMul, Nat.reduceLeDiff, Nat.reduceSub, Nat.reduceLT, Nat.reduceBEq, ↓reduceIte, reduceCtorEq, ← decide_not, okind, vpre, vpure, intBin, intPre, strBin, strPre, popTo, argSlots, fldV, fldAV, subCells, idxVV, idxAAV, idxSV, sliceV, sliceSV, boundV, szIs, storeOp, storeS, setRowV, eff, extV, buildV, splice, eqSV, fitsL, eqCells, eqCell, minmaxV, capV, binBV, nilCheckV, bytesV, V.cells, V.stays, Orc.nothing])
          exact RetV.same rfl
        · have q4 : (e2 = 0) = False := by simpa using h0
          have hp2 : p2 = (pn : Int) := by
            rcases hc with h | h
            · exact absurd h h0
            · exact h
          subst hp2
          (refine Runs.of_step Orc.nothing 300 ?_; simp -implicitDefEqProofs only [BB, Int.reduceEq, Int.reduceNe, Int.reduceLT, Int.reduceLE, Int.reduceGT, Int.reduceGE, Nat.reduceEqDiff, Nat.reduceAdd, Nat.reduceMul, Nat.reduceLeDiff, Nat.reduceSub, Nat.reduceLT, Nat.reduceBEq, ↓reduceIte, reduceCtorEq, ← decide_not, okind, vpre, vpure, intBin, intPre, strBin, strPre, popTo, argSlots, fldV, fldAV, subCells, idxVV, idxAAV, idxSV, sliceV, sliceSV, boundV, szIs, storeOp, storeS, setRowV, eff, extV, buildV, splice, eqSV, fitsL, eqCells, eqCell, minmaxV, capV, binBV, nilCheckV, bytesV, V.cells, V.stays, Orc.nothing, q4, eq_self_int])
          refine Runs.pcall rfl rfl rfl (awake5_c _) ?_
          (refine Runs.of_step Orc.nothing 300 ?_; simp -implicitDefEqProofs only [BB, Int.reduceEq, Int.reduceNe, Int.reduceLT, Int.reduceLE, Int.reduceGT, Int.reduceGE, Nat.reduceEqDiff, Nat.reduceAdd, Nat.reduceMul, Nat.reduceLeDiff, Nat.reduceSub, Nat.reduceLT, Nat.reduceBEq, ↓reduceIte, reduceCtorEq, ← decide_not, okind, vpre, vpure, intBin, intPre, strBin, strPre, popTo, argSlots, fldV, fldAV, subCells, idxVV, idxAAV, idxSV, sliceV, sliceSV, boundV, szIs, storeOp, storeS, setRowV, eff, extV, buildV, splice, eqSV, fitsL, eqCells, eqCell, minmaxV, capV, binBV, nilCheckV, bytesV, V.cells, V.stays, Orc.nothing])
          exact RetV.same rfl
end Go.Vc
