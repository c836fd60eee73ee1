/- Part 10 of the library of this proof. -/
import Derived.Test.YtleahcdojjeinaaDoorW9
set_option linter.all false
namespace Go.Vc
open Go.Proofs
theorem keepA {K J τ τ' : Store} {idA : Option Nat} (hA : ∀ i, idA = some i → K i = none ∧ ∃ o, J i = some o) (s : SubStore (delO τ idA) τ') (q : Nat) (o : Ob) (hq : K q ≠ none) (ho : τ q = some o) : τ' q = some o := by
  refine s _ _ ?_
  cases h : idA with
  | none => exact ho
  | some j =>
    have hj := (hA j h).1
    have : q ≠ j := fun e => hq (by rw [e]; exact hj)
    show del τ j q = some o
    rw [del_ne this]
    exact ho
theorem encS_cells (x : Shp) : (encS x).cells = [encS x] := by cases x <;> simp [encS, V.cells]
theorem encS_stays (x : Shp) : (encS x).stays = true := by cases x <;> simp [encS, V.stays]
structure NInv (σ0 σ : Store) (id : Nat) (v : V) (xs : List Shp) (l : List Tk) (w : Bool) : Prop where
  off : Off id σ0 σ
  rd : σ id = some (rdr l w)
  out : OutV σ0 σ 101 1 v (xs.map encS)
  len : xs.length + l.length ≤ 1000000
theorem outOff {σ σc σd : Store} {id e sz : Nat} {X : Ob} {v : V} {rows : List V} (h : σ id ≠ none) (ho : OutV σ σc e sz v rows) (hd : σd = upd σc id X) : OutV σ σd e sz v rows := by
  rcases ho with h1 | ⟨q, g1, g2, g3⟩
  · exact .inl h1
  · have hq : q ≠ id := fun e => h (by rw [← e]; exact g3)
    exact .inr ⟨q, g1, by rw [hd, upd_ne hq]; exact g2, g3⟩
theorem NInv.push {σ σd σ21 σ22 : Store} {id id22 : Nat} {xs : List Shp} {l : List Tk} {w : Bool} {x : Shp} {idA : Option Nat} (off : Off id σ σd) (rd : σd id = some (rdr l w)) (h : σ id ≠ none) (s21 : SubStore σd σ21)
    (hA : ∀ i, idA = some i → σ i = none ∧ ∃ o, σd i = some o) (s22 : SubStore (delO σ21 idA) σ22) (a22 : σ22 id22 = some ⟨101, 1, xs.map encS ++ [encS x]⟩) (f22 : σ21 id22 = none) (hl : xs.length + 1 + l.length ≤ 1000000) :
    NInv σ σ22 id (.own id22 0 (xs.length + 1)) (xs ++ [x]) l w where
  off := fun q hq o ho => keepA hA s22 q o (by rw [ho]; simp) (s21 _ _ (off q hq o ho))
  rd := keepA hA s22 id _ h (s21 _ _ rd)
  out := by
    rw [List.map_append]
    exact OutV.new (by simp) a22 (off.none rd (s21.none f22))
  len := by simp only [List.length_append, List.length_cons, List.length_nil]; omega
theorem nodesR_len : ∀ (f : Nat) (l : List Tk), (nodesR f l).2.1.length ≤ l.length
  | 0, l => Nat.le_refl _
  | f + 1, l => by
    have hT : ∀ l w, (if w = true then (([] : List Shp), l, true) else nodesR f l).2.1.length ≤ l.length := by
      intro l w
      split
      · exact Nat.le_refl _
      · exact nodesR_len f l
    unfold nodesR
    split
    · rename_i hs
      have h1 := (takeR_yes hs).2
      have h2 := (attrsT_len (fun _ => true) plainS l.tail false).2
      have h3 := hT (attrsT (fun _ => true) plainS l.tail false).2.1 (attrsT (fun _ => true) plainS l.tail false).2.2
      simp only
      generalize attrsT (fun _ => true) plainS l.tail false = a at *
      generalize (if a.2.2 = true then (([] : List Shp), a.2.1, true) else nodesR f a.2.1) = n at *
      have h4 := takeR_len 93 n.2.1 n.2.2
      generalize takeR 93 n.2.1 n.2.2 = c at *
      have h5 := hT c.1 c.2
      omega
    · split
      · rename_i hs
        have h1 := textR_len hs
        simp only
        have h5 := hT (textR l).2.1 (textR l).2.2
        omega
      · split
        · rename_i hs
          have h1 := (takeR_yes hs).2
          have h2 := boxR_len 125 l.tail false
          simp only
          have h5 := hT (boxR 125 l.tail false).2.2.1 (boxR 125 l.tail false).2.2.2
          omega
        · split
          · rename_i hs
            have h1 := floatR_len hs
            simp only
            have h5 := hT (floatR l false).2.1 (floatR l false).2.2
            omega
          · exact Nat.le_refl _
theorem nodesT_len (f : Nat) (l : List Tk) (w : Bool) : (nodesT f l w).2.1.length ≤ l.length := by
  unfold nodesT
  split
  · exact Nat.le_refl _
  · exact nodesR_len f l
set_option maxRecDepth 100000 in
theorem nodes_c (f : Nat) : NodesC f := by
  induction f using Nat.strongRecOn with
  | _ f ih =>
    intro σ id l w hlf hl h
    refine Contract.of_runs Tryd.func34 e34 k34 (by simp [c34]) ?_
    refine Runs.mix 4 ?_
    have hσ : σ id ≠ none := by rw [h]; simp
    (refine Runs.of_step Orc.nothing 300 ?_; simp -implicitDefEqProofs only [BB, effR_some, effD_some, Int.reduceEq, Int.reduceNe, Int.reduceLT, Int.reduceLE, Int.reduceGT, Int.reduceGE, Nat.reduceEqDiff, Nat.reduceAdd, Nat.reduceMul, Nat.reduceLeDiff, Nat.reduceSub, Nat.reduceLT, Nat.reduceBEq, ↓reduceIte, reduceCtorEq, ← decide_not, okind, vpre, vpure, intBin, intPre, strBin, strPre, popTo, argSlots, fldV, fldAV, subCells, idxVV, idxAAV, idxSV, sliceV, sliceSV, boundV, szIs, storeOp, storeS, setRowV, eff, extV, buildV, splice, eqSV, fitsL, eqCells, eqCell, minmaxV, capV, binBV, nilCheckV, bytesV, V.cells, V.stays, Orc.nothing, c34])
    refine Runs.loop (fun m st => ∃ fu xs l' w', m = l'.length ∧ l'.length ≤ fu ∧ fu ≤ f ∧ nodesT f l w = (xs ++ (nodesT fu l' w').1, (nodesT fu l' w').2) ∧ NInv σ st.σ id (st.s 3) xs l' w' ∧ st.s 0 = .ptr id 0 0) l.length
      ⟨f, [], l, w, rfl, hlf, Nat.le_refl _, rfl, { off := Off.refl id σ, rd := h, out := OutV.start, len := by simpa using hl }, rfl⟩ ?_
    rintro m ⟨S, σc⟩ ⟨fu, xs, l', w', rfl, hfu, hff, hT, inv, p0⟩
    simp only at inv p0
    have rd := inv.rd
    have hlen := inv.len
    have fin : nodesT fu l' w' = ([], l', w') → RetV (S 3) σc fun r σ' => r = .sl 1 ((nodesT f l w).1.map encS) ∧ σ' = upd σ id (rdr (nodesT f l w).2.1 (nodesT f l w).2.2) := by
      intro e
      rw [hT, e, List.append_nil]
      have hout : OutV (upd σ id (rdr l' w')) σc 101 1 (S 3) (xs.map encS) := by
        rcases inv.out with h1 | ⟨q, g1, g2, g3⟩
        · exact .inl h1
        · have hq : q ≠ id := fun e => hσ (by rw [← e]; exact g3)
          exact .inr ⟨q, g1, g2, by rw [upd_ne hq]; exact g3⟩
      exact hout.retv (inv.off.to rd) rfl
    refine Runs.mix 4 ?_
    cases w' with
    | true =>
      (refine Runs.of_step Orc.nothing 300 ?_; simp -implicitDefEqProofs only [BB, effR_some, effD_some, Int.reduceEq, Int.reduceNe, Int.reduceLT, Int.reduceLE, Int.reduceGT, Int.reduceGE, Nat.reduceEqDiff, Nat.reduceAdd, Nat.reduceMul, Nat.reduceLeDiff, Nat.reduceSub, Nat.reduceLT, Nat.reduceBEq, ↓reduceIte, reduceCtorEq, ← decide_not, okind, vpre, vpure, intBin, intPre, strBin, strPre, popTo, argSlots, fldV, fldAV, subCells, idxVV, idxAAV, idxSV, sliceV, sliceSV, boundV, szIs, storeOp, storeS, setRowV, eff, extV, buildV, splice, eqSV, fitsL, eqCells, eqCell, minmaxV, capV, binBV, nilCheckV, bytesV, V.cells, V.stays, Orc.nothing, p0, rd])
      exact fin rfl
    | false =>
      have step : ∀ c, signB c l' = true → ∃ g, fu = g + 1 ∧ l'.tail.length + 1 = l'.length ∧ takeR c l' false = (l'.tail, false) := by
        intro c hc
        obtain ⟨e1, e2⟩ := takeR_yes hc
        cases fu with
        | zero => omega
        | succ g => exact ⟨g, rfl, e2, e1⟩
      (refine Runs.of_step Orc.nothing 300 ?_; simp -implicitDefEqProofs only [BB, effR_some, effD_some, Int.reduceEq, Int.reduceNe, Int.reduceLT, Int.reduceLE, Int.reduceGT, Int.reduceGE, Nat.reduceEqDiff, Nat.reduceAdd, Nat.reduceMul, Nat.reduceLeDiff, Nat.reduceSub, Nat.reduceLT, Nat.reduceBEq, ↓reduceIte, reduceCtorEq, ← decide_not, okind, vpre, vpure, intBin, intPre, strBin, strPre, popTo, argSlots, fldV, fldAV, subCells, idxVV, idxAAV, idxSV, sliceV, sliceSV, boundV, szIs, storeOp, storeS, setRowV, eff, extV, buildV, splice, eqSV, fitsL, eqCells, eqCell, minmaxV, capV, binBV, nilCheckV, bytesV, V.cells, V.stays, Orc.nothing, p0, rd])
      refine Runs.pcall rfl rfl rfl (rsign_c l' 91 _) ?_
      cases hs91 : signB 91 l' with
      | true =>
        obtain ⟨g, rfl, hlt, htk⟩ := step 91 hs91
        (refine Runs.of_step Orc.nothing 300 ?_; simp -implicitDefEqProofs only [BB, effR_some, effD_some, Int.reduceEq, Int.reduceNe, Int.reduceLT, Int.reduceLE, Int.reduceGT, Int.reduceGE, Nat.reduceEqDiff, Nat.reduceAdd, Nat.reduceMul, Nat.reduceLeDiff, Nat.reduceSub, Nat.reduceLT, Nat.reduceBEq, ↓reduceIte, reduceCtorEq, ← decide_not, okind, vpre, vpure, intBin, intPre, strBin, strPre, popTo, argSlots, fldV, fldAV, subCells, idxVV, idxAAV, idxSV, sliceV, sliceSV, boundV, szIs, storeOp, storeS, setRowV, eff, extV, buildV, splice, eqSV, fitsL, eqCells, eqCell, minmaxV, capV, binBV, nilCheckV, bytesV, V.cells, V.stays, Orc.nothing, p0])
        refine Runs.call rfl rfl rfl (block_c (ih g (by omega)) rd hfu (by omega) hs91) ?_
        have hal := attrsT_len (fun _ => true) plainS l'.tail false
        have hnl := nodesT_len g (attrsT (fun _ => true) plainS l'.tail false).2.1 (attrsT (fun _ => true) plainS l'.tail false).2.2
        have hst : nodesT (g + 1) l' false = (Shp.block (attrsT (fun _ => true) plainS l'.tail false).1 (nodesT g (attrsT (fun _ => true) plainS l'.tail false).2.1 (attrsT (fun _ => true) plainS l'.tail false).2.2).1 :: (nodesT g (takeR 93 (nodesT g (attrsT (fun _ => true) plainS l'.tail false).2.1 (attrsT (fun _ => true) plainS l'.tail false).2.2).2.1 (nodesT g (attrsT (fun _ => true) plainS l'.tail false).2.1 (attrsT (fun _ => true) plainS l'.tail false).2.2).2.2).1 (takeR 93 (nodesT g (attrsT (fun _ => true) plainS l'.tail false).2.1 (attrsT (fun _ => true) plainS l'.tail false).2.2).2.1 (nodesT g (attrsT (fun _ => true) plainS l'.tail false).2.1 (attrsT (fun _ => true) plainS l'.tail false).2.2).2.2).2).1, (nodesT g (takeR 93 (nodesT g (attrsT (fun _ => true) plainS l'.tail false).2.1 (attrsT (fun _ => true) plainS l'.tail false).2.2).2.1 (nodesT g (attrsT (fun _ => true) plainS l'.tail false).2.1 (attrsT (fun _ => true) plainS l'.tail false).2.2).2.2).1 (takeR 93 (nodesT g (attrsT (fun _ => true) plainS l'.tail false).2.1 (attrsT (fun _ => true) plainS l'.tail false).2.2).2.1 (nodesT g (attrsT (fun _ => true) plainS l'.tail false).2.1 (attrsT (fun _ => true) plainS l'.tail false).2.2).2.2).2).2) := by
          show nodesR (g + 1) l' = _
          rw [nodesR, if_pos hs91]; rfl
        generalize attrsT (fun _ => true) plainS l'.tail false = a at *
        generalize nodesT g a.2.1 a.2.2 = nn at *
        have hcl := takeR_len 93 nn.2.1 nn.2.2
        generalize takeR 93 nn.2.1 nn.2.2 = c at *
        rintro r1 σd ⟨rfl, hσd⟩
        have hσd : σd = upd σc id (rdr c.1 c.2) := hσd
        have hstep : nodesT (g + 1) l' false = (Shp.block a.1 nn.1 :: (nodesT g c.1 c.2).1, (nodesT g c.1 c.2).2) := by
          exact hst
        have hle : c.1.length + 1 ≤ l'.length := by
          omega
        rw [hstep] at hT
        have hxc := encS_cells (Shp.block a.1 nn.1)
        have hxs := encS_stays (Shp.block a.1 nn.1)
        have hout := outOff hσ inv.out hσd
        have Od : Off id σ σd := by rw [hσd]; exact inv.off.upd
        have hd : σd id = some (rdr c.1 c.2) := by rw [hσd]; exact upd_same
        generalize hX : Shp.block a.1 nn.1 = X at *
        generalize hvx : encS X = vx at *
        (refine Runs.of_step Orc.nothing 300 ?_; simp -implicitDefEqProofs only [BB, Int.reduceEq, Int.reduceNe, Int.reduceLT, Int.reduceLE, Int.reduceGT, Int.reduceGE, Nat.reduceEqDiff, Nat.reduceAdd, Nat.reduceMul, Nat.reduceLeDiff, Nat.reduceSub, Nat.reduceLT, Nat.reduceBEq, ↓reduceIte, reduceCtorEq, ← decide_not, okind, vpre, vpure, intBin, intPre, strBin, strPre, popTo, argSlots, fldV, fldAV, subCells, idxVV, idxAAV, idxSV, sliceV, sliceSV, boundV, szIs, storeOp, storeS, setRowV, eff, extV, buildV, splice, eqSV, fitsL, eqCells, eqCell, minmaxV, capV, binBV, nilCheckV, bytesV, Orc.nothing, V.cells_agg, V.cells_int, V.cells_nils, V.cells_own, V.cells_sl, V.cells_str, V.cells_bool, V.cells_fn, V.cells_ptr, V.cells_rp, V.stays_agg, V.stays_int, V.stays_nils, V.stays_own, V.stays_sl, V.stays_str, V.stays_bool, V.stays_fn, V.stays_ptr, V.stays_rp, hxc, hxs])
        refine effR_new fun id21 σ21 s21 a21 f21 => ?_
        obtain ⟨idA, hda, hdA⟩ := hout.dst' s21
        have hb : (xs.length + 1) * 17 ≤ 140737488355328 := by omega
        simp -implicitDefEqProofs only [BB, Int.reduceEq, Int.reduceNe, Int.reduceLT, Int.reduceLE, Int.reduceGT, Int.reduceGE, Nat.reduceEqDiff, Nat.reduceAdd, Nat.reduceMul, Nat.reduceLeDiff, Nat.reduceSub, Nat.reduceLT, Nat.reduceBEq, ↓reduceIte, reduceCtorEq, ← decide_not, okind, vpre, vpure, intBin, intPre, strBin, strPre, popTo, argSlots, fldV, fldAV, subCells, idxVV, idxAAV, idxSV, sliceV, sliceSV, boundV, szIs, storeOp, storeS, setRowV, eff, extV, buildV, splice, eqSV, fitsL, eqCells, eqCell, minmaxV, capV, binBV, nilCheckV, bytesV, V.cells_agg, V.cells_int, V.cells_nils, V.cells_own, V.cells_sl, V.cells_str, V.cells_bool, V.cells_fn, V.cells_ptr, V.cells_rp, V.stays_agg, V.stays_int, V.stays_nils, V.stays_own, V.stays_sl, V.stays_str, V.stays_bool, V.stays_fn, V.stays_ptr, V.stays_rp, hxc, hxs, hda, srcOne a21, List.length_map, hb]
        refine effR_put fun id22 σ22 s22 a22 f22 => ?_
        simp -implicitDefEqProofs only [BB, Int.reduceEq, Int.reduceNe, Int.reduceLT, Int.reduceLE, Int.reduceGT, Int.reduceGE, Nat.reduceEqDiff, Nat.reduceAdd, Nat.reduceMul, Nat.reduceLeDiff, Nat.reduceSub, Nat.reduceLT, Nat.reduceBEq, ↓reduceIte, reduceCtorEq, ← decide_not, okind, vpre, vpure, intBin, intPre, strBin, strPre, popTo, argSlots, fldV, fldAV, subCells, idxVV, idxAAV, idxSV, sliceV, sliceSV, boundV, szIs, storeOp, storeS, setRowV, eff, extV, buildV, splice, eqSV, fitsL, eqCells, eqCell, minmaxV, capV, binBV, nilCheckV, bytesV, V.cells, V.stays, p0]
        subst hvx
        refine ⟨c.1.length, by omega, g, xs ++ [X], c.1, c.2, rfl, by omega, by omega, by rw [hT]; simp, ?_⟩
        exact NInv.push Od hd hσ s21 hdA s22 (by exact a22) f22 (by omega)
      | false =>
        (refine Runs.of_step Orc.nothing 300 ?_; simp -implicitDefEqProofs only [BB, effR_some, effD_some, Int.reduceEq, Int.reduceNe, Int.reduceLT, Int.reduceLE, Int.reduceGT, Int.reduceGE, Nat.reduceEqDiff, Nat.reduceAdd, Nat.reduceMul, Nat.reduceLeDiff, Nat.reduceSub, Nat.reduceLT, Nat.reduceBEq, ↓reduceIte, reduceCtorEq, ← decide_not, okind, vpre, vpure, intBin, intPre, strBin, strPre, popTo, argSlots, fldV, fldAV, subCells, idxVV, idxAAV, idxSV, sliceV, sliceSV, boundV, szIs, storeOp, storeS, setRowV, eff, extV, buildV, splice, eqSV, fitsL, eqCells, eqCell, minmaxV, capV, binBV, nilCheckV, bytesV, V.cells, V.stays, Orc.nothing, p0, rd])
        refine Runs.pcall rfl rfl rfl (rsign_c l' 40 _) ?_
        cases hs40 : signB 40 l' with
        | true =>
          obtain ⟨g, rfl, hlt, htk⟩ := step 40 hs40
          (refine Runs.of_step Orc.nothing 300 ?_; simp -implicitDefEqProofs only [BB, effR_some, effD_some, Int.reduceEq, Int.reduceNe, Int.reduceLT, Int.reduceLE, Int.reduceGT, Int.reduceGE, Nat.reduceEqDiff, Nat.reduceAdd, Nat.reduceMul, Nat.reduceLeDiff, Nat.reduceSub, Nat.reduceLT, Nat.reduceBEq, ↓reduceIte, reduceCtorEq, ← decide_not, okind, vpre, vpure, intBin, intPre, strBin, strPre, popTo, argSlots, fldV, fldAV, subCells, idxVV, idxAAV, idxSV, sliceV, sliceSV, boundV, szIs, storeOp, storeS, setRowV, eff, extV, buildV, splice, eqSV, fitsL, eqCells, eqCell, minmaxV, capV, binBV, nilCheckV, bytesV, V.cells, V.stays, Orc.nothing, p0])
          refine Runs.call rfl rfl rfl (rtxt_c rd (by omega) hs40) ?_
          have hcl := textR_len hs40
          have hst : nodesT (g + 1) l' false = (Shp.text (textR l').1 :: (nodesT g (textR l').2.1 (textR l').2.2).1, (nodesT g (textR l').2.1 (textR l').2.2).2) := by
            show nodesR (g + 1) l' = _
            rw [nodesR, if_neg (by simp [hs91]), if_pos hs40]; rfl
          generalize textR l' = c at *
          rintro r1 σd ⟨rfl, hσd⟩
          have hσd : σd = upd σc id (rdr c.2.1 c.2.2) := hσd
          have hstep : nodesT (g + 1) l' false = (Shp.text c.1 :: (nodesT g c.2.1 c.2.2).1, (nodesT g c.2.1 c.2.2).2) := by
            exact hst
          have hle : c.2.1.length + 1 ≤ l'.length := by
            omega
          rw [hstep] at hT
          have hxc := encS_cells (Shp.text c.1)
          have hxs := encS_stays (Shp.text c.1)
          have hout := outOff hσ inv.out hσd
          have Od : Off id σ σd := by rw [hσd]; exact inv.off.upd
          have hd : σd id = some (rdr c.2.1 c.2.2) := by rw [hσd]; exact upd_same
          generalize hX : Shp.text c.1 = X at *
          generalize hvx : encS X = vx at *
          (refine Runs.of_step Orc.nothing 300 ?_; simp -implicitDefEqProofs only [BB, Int.reduceEq, Int.reduceNe, Int.reduceLT, Int.reduceLE, Int.reduceGT, Int.reduceGE, Nat.reduceEqDiff, Nat.reduceAdd, Nat.reduceMul, Nat.reduceLeDiff, Nat.reduceSub, Nat.reduceLT, Nat.reduceBEq, ↓reduceIte, reduceCtorEq, ← decide_not, okind, vpre, vpure, intBin, intPre, strBin, strPre, popTo, argSlots, fldV, fldAV, subCells, idxVV, idxAAV, idxSV, sliceV, sliceSV, boundV, szIs, storeOp, storeS, setRowV, eff, extV, buildV, splice, eqSV, fitsL, eqCells, eqCell, minmaxV, capV, binBV, nilCheckV, bytesV, Orc.nothing, V.cells_agg, V.cells_int, V.cells_nils, V.cells_own, V.cells_sl, V.cells_str, V.cells_bool, V.cells_fn, V.cells_ptr, V.cells_rp, V.stays_agg, V.stays_int, V.stays_nils, V.stays_own, V.stays_sl, V.stays_str, V.stays_bool, V.stays_fn, V.stays_ptr, V.stays_rp, hxc, hxs])
          refine effR_new fun id21 σ21 s21 a21 f21 => ?_
          obtain ⟨idA, hda, hdA⟩ := hout.dst' s21
          have hb : (xs.length + 1) * 17 ≤ 140737488355328 := by omega
          simp -implicitDefEqProofs only [BB, Int.reduceEq, Int.reduceNe, Int.reduceLT, Int.reduceLE, Int.reduceGT, Int.reduceGE, Nat.reduceEqDiff, Nat.reduceAdd, Nat.reduceMul, Nat.reduceLeDiff, Nat.reduceSub, Nat.reduceLT, Nat.reduceBEq, ↓reduceIte, reduceCtorEq, ← decide_not, okind, vpre, vpure, intBin, intPre, strBin, strPre, popTo, argSlots, fldV, fldAV, subCells, idxVV, idxAAV, idxSV, sliceV, sliceSV, boundV, szIs, storeOp, storeS, setRowV, eff, extV, buildV, splice, eqSV, fitsL, eqCells, eqCell, minmaxV, capV, binBV, nilCheckV, bytesV, V.cells_agg, V.cells_int, V.cells_nils, V.cells_own, V.cells_sl, V.cells_str, V.cells_bool, V.cells_fn, V.cells_ptr, V.cells_rp, V.stays_agg, V.stays_int, V.stays_nils, V.stays_own, V.stays_sl, V.stays_str, V.stays_bool, V.stays_fn, V.stays_ptr, V.stays_rp, hxc, hxs, hda, srcOne a21, List.length_map, hb]
          refine effR_put fun id22 σ22 s22 a22 f22 => ?_
          simp -implicitDefEqProofs only [BB, Int.reduceEq, Int.reduceNe, Int.reduceLT, Int.reduceLE, Int.reduceGT, Int.reduceGE, Nat.reduceEqDiff, Nat.reduceAdd, Nat.reduceMul, Nat.reduceLeDiff, Nat.reduceSub, Nat.reduceLT, Nat.reduceBEq, ↓reduceIte, reduceCtorEq, ← decide_not, okind, vpre, vpure, intBin, intPre, strBin, strPre, popTo, argSlots, fldV, fldAV, subCells, idxVV, idxAAV, idxSV, sliceV, sliceSV, boundV, szIs, storeOp, storeS, setRowV, eff, extV, buildV, splice, eqSV, fitsL, eqCells, eqCell, minmaxV, capV, binBV, nilCheckV, bytesV, V.cells, V.stays, p0]
          subst hvx
          refine ⟨c.2.1.length, by omega, g, xs ++ [X], c.2.1, c.2.2, rfl, by omega, by omega, by rw [hT]; simp, ?_⟩
          exact NInv.push Od hd hσ s21 hdA s22 (by exact a22) f22 (by omega)
        | false =>
          (refine Runs.of_step Orc.nothing 300 ?_; simp -implicitDefEqProofs only [BB, effR_some, effD_some, Int.reduceEq, Int.reduceNe, Int.reduceLT, Int.reduceLE, Int.reduceGT, Int.reduceGE, Nat.reduceEqDiff, Nat.reduceAdd, Nat.reduceMul, Nat.reduceLeDiff, Nat.reduceSub, Nat.reduceLT, Nat.reduceBEq, ↓reduceIte, reduceCtorEq, ← decide_not, okind, vpre, vpure, intBin, intPre, strBin, strPre, popTo, argSlots, fldV, fldAV, subCells, idxVV, idxAAV, idxSV, sliceV, sliceSV, boundV, szIs, storeOp, storeS, setRowV, eff, extV, buildV, splice, eqSV, fitsL, eqCells, eqCell, minmaxV, capV, binBV, nilCheckV, bytesV, V.cells, V.stays, Orc.nothing, p0, rd])
          refine Runs.pcall rfl rfl rfl (rsign_c l' 123 _) ?_
          cases hs123 : signB 123 l' with
          | true =>
            obtain ⟨g, rfl, hlt, htk⟩ := step 123 hs123
            (refine Runs.of_step Orc.nothing 300 ?_; simp -implicitDefEqProofs only [BB, effR_some, effD_some, Int.reduceEq, Int.reduceNe, Int.reduceLT, Int.reduceLE, Int.reduceGT, Int.reduceGE, Nat.reduceEqDiff, Nat.reduceAdd, Nat.reduceMul, Nat.reduceLeDiff, Nat.reduceSub, Nat.reduceLT, Nat.reduceBEq, ↓reduceIte, reduceCtorEq, ← decide_not, okind, vpre, vpure, intBin, intPre, strBin, strPre, popTo, argSlots, fldV, fldAV, subCells, idxVV, idxAAV, idxSV, sliceV, sliceSV, boundV, szIs, storeOp, storeS, setRowV, eff, extV, buildV, splice, eqSV, fitsL, eqCells, eqCell, minmaxV, capV, binBV, nilCheckV, bytesV, V.cells, V.stays, Orc.nothing, p0])
            refine Runs.call rfl rfl rfl (take_c 123 rd) ?_
            rw [htk]
            rintro r0 σb ⟨rfl, hσb⟩
            have hσb : σb = upd σc id (rdr l'.tail false) := hσb
            have hb0 : σb id = some (rdr l'.tail false) := by rw [hσb]; exact upd_same
            (refine Runs.of_step Orc.nothing 300 ?_; simp -implicitDefEqProofs only [BB, effR_some, effD_some, Int.reduceEq, Int.reduceNe, Int.reduceLT, Int.reduceLE, Int.reduceGT, Int.reduceGE, Nat.reduceEqDiff, Nat.reduceAdd, Nat.reduceMul, Nat.reduceLeDiff, Nat.reduceSub, Nat.reduceLT, Nat.reduceBEq, ↓reduceIte, reduceCtorEq, ← decide_not, okind, vpre, vpure, intBin, intPre, strBin, strPre, popTo, argSlots, fldV, fldAV, subCells, idxVV, idxAAV, idxSV, sliceV, sliceSV, boundV, szIs, storeOp, storeS, setRowV, eff, extV, buildV, splice, eqSV, fitsL, eqCells, eqCell, minmaxV, capV, binBV, nilCheckV, bytesV, V.cells, V.stays, Orc.nothing, p0])
            refine Runs.call rfl rfl rfl (box_c 125 hb0) ?_
            have hcl := boxR_len 125 l'.tail false
            have hst : nodesT (g + 1) l' false = (Shp.box (boxR 125 l'.tail false).1 (boxR 125 l'.tail false).2.1 :: (nodesT g (boxR 125 l'.tail false).2.2.1 (boxR 125 l'.tail false).2.2.2).1, (nodesT g (boxR 125 l'.tail false).2.2.1 (boxR 125 l'.tail false).2.2.2).2) := by
              show nodesR (g + 1) l' = _
              rw [nodesR, if_neg (by simp [hs91]), if_neg (by simp [hs40]), if_pos hs123]; rfl
            generalize boxR 125 l'.tail false = c at *
            rintro r1 σd ⟨rfl, hσd⟩
            have hσd : σd = upd σc id (rdr c.2.2.1 c.2.2.2) := by rw [show σd = upd σb id (rdr c.2.2.1 c.2.2.2) from hσd, hσb, upd_upd]
            have hstep : nodesT (g + 1) l' false = (Shp.box c.1 c.2.1 :: (nodesT g c.2.2.1 c.2.2.2).1, (nodesT g c.2.2.1 c.2.2.2).2) := by
              exact hst
            have hle : c.2.2.1.length + 1 ≤ l'.length := by
              omega
            rw [hstep] at hT
            have hxc := encS_cells (Shp.box c.1 c.2.1)
            have hxs := encS_stays (Shp.box c.1 c.2.1)
            have hout := outOff hσ inv.out hσd
            have Od : Off id σ σd := by rw [hσd]; exact inv.off.upd
            have hd : σd id = some (rdr c.2.2.1 c.2.2.2) := by rw [hσd]; exact upd_same
            generalize hX : Shp.box c.1 c.2.1 = X at *
            generalize hvx : encS X = vx at *
            (refine Runs.of_step Orc.nothing 300 ?_; simp -implicitDefEqProofs only [BB, Int.reduceEq, Int.reduceNe, Int.reduceLT, Int.reduceLE, Int.reduceGT, Int.reduceGE, Nat.reduceEqDiff, Nat.reduceAdd, Nat.reduceMul, Nat.reduceLeDiff, Nat.reduceSub, Nat.reduceLT, Nat.reduceBEq, ↓reduceIte, reduceCtorEq, ← decide_not, okind, vpre, vpure, intBin, intPre, strBin, strPre, popTo, argSlots, fldV, fldAV, subCells, idxVV, idxAAV, idxSV, sliceV, sliceSV, boundV, szIs, storeOp, storeS, setRowV, eff, extV, buildV, splice, eqSV, fitsL, eqCells, eqCell, minmaxV, capV, binBV, nilCheckV, bytesV, Orc.nothing, V.cells_agg, V.cells_int, V.cells_nils, V.cells_own, V.cells_sl, V.cells_str, V.cells_bool, V.cells_fn, V.cells_ptr, V.cells_rp, V.stays_agg, V.stays_int, V.stays_nils, V.stays_own, V.stays_sl, V.stays_str, V.stays_bool, V.stays_fn, V.stays_ptr, V.stays_rp, hxc, hxs])
            refine effR_new fun id21 σ21 s21 a21 f21 => ?_
            obtain ⟨idA, hda, hdA⟩ := hout.dst' s21
            have hb : (xs.length + 1) * 17 ≤ 140737488355328 := by omega
            simp -implicitDefEqProofs only [BB, Int.reduceEq, Int.reduceNe, Int.reduceLT, Int.reduceLE, Int.reduceGT, Int.reduceGE, Nat.reduceEqDiff, Nat.reduceAdd, Nat.reduceMul, Nat.reduceLeDiff, Nat.reduceSub, Nat.reduceLT, Nat.reduceBEq, ↓reduceIte, reduceCtorEq, ← decide_not, okind, vpre, vpure, intBin, intPre, strBin, strPre, popTo, argSlots, fldV, fldAV, subCells, idxVV, idxAAV, idxSV, sliceV, sliceSV, boundV, szIs, storeOp, storeS, setRowV, eff, extV, buildV, splice, eqSV, fitsL, eqCells, eqCell, minmaxV, capV, binBV, nilCheckV, bytesV, V.cells_agg, V.cells_int, V.cells_nils, V.cells_own, V.cells_sl, V.cells_str, V.cells_bool, V.cells_fn, V.cells_ptr, V.cells_rp, V.stays_agg, V.stays_int, V.stays_nils, V.stays_own, V.stays_sl, V.stays_str, V.stays_bool, V.stays_fn, V.stays_ptr, V.stays_rp, hxc, hxs, hda, srcOne a21, List.length_map, hb]
            refine effR_put fun id22 σ22 s22 a22 f22 => ?_
            simp -implicitDefEqProofs only [BB, Int.reduceEq, Int.reduceNe, Int.reduceLT, Int.reduceLE, Int.reduceGT, Int.reduceGE, Nat.reduceEqDiff, Nat.reduceAdd, Nat.reduceMul, Nat.reduceLeDiff, Nat.reduceSub, Nat.reduceLT, Nat.reduceBEq, ↓reduceIte, reduceCtorEq, ← decide_not, okind, vpre, vpure, intBin, intPre, strBin, strPre, popTo, argSlots, fldV, fldAV, subCells, idxVV, idxAAV, idxSV, sliceV, sliceSV, boundV, szIs, storeOp, storeS, setRowV, eff, extV, buildV, splice, eqSV, fitsL, eqCells, eqCell, minmaxV, capV, binBV, nilCheckV, bytesV, V.cells, V.stays, p0]
            subst hvx
            refine ⟨c.2.2.1.length, by omega, g, xs ++ [X], c.2.2.1, c.2.2.2, rfl, by omega, by omega, by rw [hT]; simp, ?_⟩
            exact NInv.push Od hd hσ s21 hdA s22 (by subst hX; simpa [encS] using a22) f22 (by omega)
          | false =>
            (refine Runs.of_step Orc.nothing 300 ?_; simp -implicitDefEqProofs only [BB, effR_some, effD_some, Int.reduceEq, Int.reduceNe, Int.reduceLT, Int.reduceLE, Int.reduceGT, Int.reduceGE, Nat.reduceEqDiff, Nat.reduceAdd, Nat.reduceMul, Nat.reduceLeDiff, Nat.reduceSub, Nat.reduceLT, Nat.reduceBEq, ↓reduceIte, reduceCtorEq, ← decide_not, okind, vpre, vpure, intBin, intPre, strBin, strPre, popTo, argSlots, fldV, fldAV, subCells, idxVV, idxAAV, idxSV, sliceV, sliceSV, boundV, szIs, storeOp, storeS, setRowV, eff, extV, buildV, splice, eqSV, fitsL, eqCells, eqCell, minmaxV, capV, binBV, nilCheckV, bytesV, V.cells, V.stays, Orc.nothing, p0, rd])
            refine Runs.pcall rfl rfl rfl (rsign_c l' 60 _) ?_
            cases hs60 : signB 60 l' with
            | true =>
              obtain ⟨g, rfl, hlt, htk⟩ := step 60 hs60
              (refine Runs.of_step Orc.nothing 300 ?_; simp -implicitDefEqProofs only [BB, effR_some, effD_some, Int.reduceEq, Int.reduceNe, Int.reduceLT, Int.reduceLE, Int.reduceGT, Int.reduceGE, Nat.reduceEqDiff, Nat.reduceAdd, Nat.reduceMul, Nat.reduceLeDiff, Nat.reduceSub, Nat.reduceLT, Nat.reduceBEq, ↓reduceIte, reduceCtorEq, ← decide_not, okind, vpre, vpure, intBin, intPre, strBin, strPre, popTo, argSlots, fldV, fldAV, subCells, idxVV, idxAAV, idxSV, sliceV, sliceSV, boundV, szIs, storeOp, storeS, setRowV, eff, extV, buildV, splice, eqSV, fitsL, eqCells, eqCell, minmaxV, capV, binBV, nilCheckV, bytesV, V.cells, V.stays, Orc.nothing, p0])
              refine Runs.call rfl rfl rfl (float_c rd) ?_
              have hcl := floatR_len hs60
              have hst : nodesT (g + 1) l' false = ((floatR l' false).1 :: (nodesT g (floatR l' false).2.1 (floatR l' false).2.2).1, (nodesT g (floatR l' false).2.1 (floatR l' false).2.2).2) := by
                show nodesR (g + 1) l' = _
                rw [nodesR, if_neg (by simp [hs91]), if_neg (by simp [hs40]), if_neg (by simp [hs123]), if_pos hs60]; rfl
              generalize floatR l' false = c at *
              rintro r1 σd ⟨rfl, hσd⟩
              have hσd : σd = upd σc id (rdr c.2.1 c.2.2) := hσd
              have hstep : nodesT (g + 1) l' false = (c.1 :: (nodesT g c.2.1 c.2.2).1, (nodesT g c.2.1 c.2.2).2) := by
                exact hst
              have hle : c.2.1.length + 1 ≤ l'.length := by
                omega
              rw [hstep] at hT
              have hxc := encS_cells (c.1)
              have hxs := encS_stays (c.1)
              have hout := outOff hσ inv.out hσd
              have Od : Off id σ σd := by rw [hσd]; exact inv.off.upd
              have hd : σd id = some (rdr c.2.1 c.2.2) := by rw [hσd]; exact upd_same
              generalize hX : c.1 = X at *
              generalize hvx : encS X = vx at *
              (refine Runs.of_step Orc.nothing 300 ?_; simp -implicitDefEqProofs only [BB, Int.reduceEq, Int.reduceNe, Int.reduceLT, Int.reduceLE, Int.reduceGT, Int.reduceGE, Nat.reduceEqDiff, Nat.reduceAdd, Nat.reduceMul, Nat.reduceLeDiff, Nat.reduceSub, Nat.reduceLT, Nat.reduceBEq, ↓reduceIte, reduceCtorEq, ← decide_not, okind, vpre, vpure, intBin, intPre, strBin, strPre, popTo, argSlots, fldV, fldAV, subCells, idxVV, idxAAV, idxSV, sliceV, sliceSV, boundV, szIs, storeOp, storeS, setRowV, eff, extV, buildV, splice, eqSV, fitsL, eqCells, eqCell, minmaxV, capV, binBV, nilCheckV, bytesV, Orc.nothing, V.cells_agg, V.cells_int, V.cells_nils, V.cells_own, V.cells_sl, V.cells_str, V.cells_bool, V.cells_fn, V.cells_ptr, V.cells_rp, V.stays_agg, V.stays_int, V.stays_nils, V.stays_own, V.stays_sl, V.stays_str, V.stays_bool, V.stays_fn, V.stays_ptr, V.stays_rp, hxc, hxs])
              refine effR_new fun id21 σ21 s21 a21 f21 => ?_
              obtain ⟨idA, hda, hdA⟩ := hout.dst' s21
              have hb : (xs.length + 1) * 17 ≤ 140737488355328 := by omega
              simp -implicitDefEqProofs only [BB, Int.reduceEq, Int.reduceNe, Int.reduceLT, Int.reduceLE, Int.reduceGT, Int.reduceGE, Nat.reduceEqDiff, Nat.reduceAdd, Nat.reduceMul, Nat.reduceLeDiff, Nat.reduceSub, Nat.reduceLT, Nat.reduceBEq, ↓reduceIte, reduceCtorEq, ← decide_not, okind, vpre, vpure, intBin, intPre, strBin, strPre, popTo, argSlots, fldV, fldAV, subCells, idxVV, idxAAV, idxSV, sliceV, sliceSV, boundV, szIs, storeOp, storeS, setRowV, eff, extV, buildV, splice, eqSV, fitsL, eqCells, eqCell, minmaxV, capV, binBV, nilCheckV, bytesV, V.cells_agg, V.cells_int, V.cells_nils, V.cells_own, V.cells_sl, V.cells_str, V.cells_bool, V.cells_fn, V.cells_ptr, V.cells_rp, V.stays_agg, V.stays_int, V.stays_nils, V.stays_own, V.stays_sl, V.stays_str, V.stays_bool, V.stays_fn, V.stays_ptr, V.stays_rp, hxc, hxs, hda, srcOne a21, List.length_map, hb]
              refine effR_put fun id22 σ22 s22 a22 f22 => ?_
              simp -implicitDefEqProofs only [BB, Int.reduceEq, Int.reduceNe, Int.reduceLT, Int.reduceLE, Int.reduceGT, Int.reduceGE, Nat.reduceEqDiff, Nat.reduceAdd, Nat.reduceMul, Nat.reduceLeDiff, Nat.reduceSub, Nat.reduceLT, Nat.reduceBEq, ↓reduceIte, reduceCtorEq, ← decide_not, okind, vpre, vpure, intBin, intPre, strBin, strPre, popTo, argSlots, fldV, fldAV, subCells, idxVV, idxAAV, idxSV, sliceV, sliceSV, boundV, szIs, storeOp, storeS, setRowV, eff, extV, buildV, splice, eqSV, fitsL, eqCells, eqCell, minmaxV, capV, binBV, nilCheckV, bytesV, V.cells, V.stays, p0]
              subst hvx
              refine ⟨c.2.1.length, by omega, g, xs ++ [X], c.2.1, c.2.2, rfl, by omega, by omega, by rw [hT]; simp, ?_⟩
              exact NInv.push Od hd hσ s21 hdA s22 (by exact a22) f22 (by omega)
            | false =>
              (refine Runs.of_step Orc.nothing 300 ?_; simp -implicitDefEqProofs only [BB, effR_some, effD_some, Int.reduceEq, Int.reduceNe, Int.reduceLT, Int.reduceLE, Int.reduceGT, Int.reduceGE, Nat.reduceEqDiff, Nat.reduceAdd, Nat.reduceMul, Nat.reduceLeDiff, Nat.reduceSub, Nat.reduceLT, Nat.reduceBEq, ↓reduceIte, reduceCtorEq, ← decide_not, okind, vpre, vpure, intBin, intPre, strBin, strPre, popTo, argSlots, fldV, fldAV, subCells, idxVV, idxAAV, idxSV, sliceV, sliceSV, boundV, szIs, storeOp, storeS, setRowV, eff, extV, buildV, splice, eqSV, fitsL, eqCells, eqCell, minmaxV, capV, binBV, nilCheckV, bytesV, V.cells, V.stays, Orc.nothing, p0])
              exact fin (by
                cases fu with
                | zero => rfl
                | succ g => show nodesR (g + 1) l' = _; rw [nodesR, if_neg (by simp [hs91]), if_neg (by simp [hs40]), if_neg (by simp [hs123]), if_neg (by simp [hs60])])
end Go.Vc
namespace Go.Vc
open Go.Proofs
/-- twelve numbers as a style -/
def styL : List Int → Sty
  | [a, b, c, d, e, f, g, h, i, j, k, l] => ⟨a, b, c, d, e, f, g, h, i, j, k, l⟩
  | _ => Sty.zero
/-- a shape's node, without those within -/
def ndS : Shp → Nd
  | .box w h => ⟨3, 1, Sty.zero, 0, 0, [], 0, w, h⟩
  | .block s _ => ⟨1, 1, styL s, 0, 0, [], 0, 0, 0⟩
  | .text ns => ⟨2, 1, Sty.zero, ns.getD 0 0, ns.getD 1 0, ns.drop 2, 0, 0, 0⟩
  | .float w h d => ⟨4, 1, Sty.zero, 0, 0, [], d, w, h⟩
theorem wk_nd {σ σ' : Store} (h : SubStore σ' σ) (k z a b c d w v : Int) (s : Sty) : Wk σ σ' (.agg [vI k, vI z, vI s.top, vI s.bottom, vI s.padTop, vI s.padBottom, vI s.inset, vI s.orphans, vI s.widows, vI s.head, vI s.before, vI s.after, vI s.inside, vI s.clear, vI a, vI b, .nils, vI d, vI w, vI v])
    (encN ⟨k, z, s, a, b, [], d, w, v⟩) := by
  simp only [encN, Nd.cells]
  refine Wk.agg ?_
  simp only [WkL]
  exact ⟨Wk.refl h _, Wk.refl h _, Wk.refl h _, Wk.refl h _, Wk.refl h _, Wk.refl h _, Wk.refl h _, Wk.refl h _, Wk.refl h _, Wk.refl h _, Wk.refl h _, Wk.refl h _, Wk.refl h _, Wk.refl h _, Wk.refl h _, Wk.refl h _, Wk.nils 1, Wk.refl h _, Wk.refl h _, Wk.refl h _, trivial⟩
theorem retN {σ σ1 σ2 : Store} {id2 : Nat} {o : Ob} {v v' : V} (s1 : SubStore σ σ1) (s2 : SubStore σ1 σ2) (f2 : σ1 id2 = none) (h : ∀ τ, SubStore σ τ → Wk τ σ v v') : RetV v (upd σ2 id2 o) fun r σ' => r = v' ∧ σ' = σ :=
  have hs : SubStore σ (upd σ2 id2 o) := (s1.trans s2).updK (s1.none f2)
  ⟨_, σ, hs, h _ hs, rfl, rfl⟩
theorem mbox_c (w h : Int) : PFun Tryd.prog 159 [.agg [vI w, vI h]] (encN (ndS (.box w h))) := fun σ => by
  refine Contract.of_runs Tryd.func159 e159 k159 (by simp [c159]) ?_
  (refine Runs.of_step Orc.nothing 300 ?_; simp -implicitDefEqProofs only [BB, Int.reduceEq, Int.reduceNe, Int.reduceLT, Int.reduceLE, Int.reduceGT, Int.reduceGE, Nat.reduceEqDiff, Nat.reduceAdd, Nat.reduceMul, Nat.reduceLeDiff, Nat.reduceSub, Nat.reduceLT, Nat.reduceBEq, ↓reduceIte, reduceCtorEq, ← decide_not, okind, vpre, vpure, intBin, intPre, strBin, strPre, popTo, argSlots, fldV, fldAV, subCells, idxVV, idxAAV, idxSV, sliceV, sliceSV, boundV, szIs, storeOp, storeS, setRowV, eff, extV, buildV, splice, eqSV, fitsL, eqCells, eqCell, minmaxV, capV, binBV, nilCheckV, bytesV, V.cells, V.stays, Orc.nothing, c159])
  refine effR_new fun id1 σ1 s1 a1 f1 => ?_
  simp -implicitDefEqProofs only [BB, Int.reduceEq, Int.reduceNe, Int.reduceLT, Int.reduceLE, Int.reduceGT, Int.reduceGE, Nat.reduceEqDiff, Nat.reduceAdd, Nat.reduceMul, Nat.reduceLeDiff, Nat.reduceSub, Nat.reduceLT, Nat.reduceBEq, ↓reduceIte, reduceCtorEq, ← decide_not, okind, vpre, vpure, intBin, intPre, strBin, strPre, popTo, argSlots, fldV, fldAV, subCells, idxVV, idxAAV, idxSV, sliceV, sliceSV, boundV, szIs, storeOp, storeS, setRowV, eff, extV, buildV, splice, eqSV, fitsL, eqCells, eqCell, minmaxV, capV, binBV, nilCheckV, bytesV, V.cells, V.stays]
  refine effR_new fun id2 σ2 s2 a2 f2 => ?_
  have b1 := s2 _ _ a1
  simp -implicitDefEqProofs only [BB, Int.reduceEq, Int.reduceNe, Int.reduceLT, Int.reduceLE, Int.reduceGT, Int.reduceGE, Nat.reduceEqDiff, Nat.reduceAdd, Nat.reduceMul, Nat.reduceLeDiff, Nat.reduceSub, Nat.reduceLT, Nat.reduceBEq, ↓reduceIte, reduceCtorEq, ← decide_not, okind, vpre, vpure, intBin, intPre, strBin, strPre, popTo, argSlots, fldV, fldAV, subCells, idxVV, idxAAV, idxSV, sliceV, sliceSV, boundV, szIs, storeOp, storeS, setRowV, eff, extV, buildV, splice, eqSV, fitsL, eqCells, eqCell, minmaxV, capV, binBV, nilCheckV, bytesV, V.cells, V.stays, b1, a2]
  exact retN s1 s2 f2 fun τ hs => wk_nd hs 3 1 0 0 0 0 w h Sty.zero
theorem mfloat_c (w h d : Int) : PFun Tryd.prog 162 [.agg [vI w, vI h, vI d]] (encN (ndS (.float w h d))) := fun σ => by
  refine Contract.of_runs Tryd.func162 e162 k162 (by simp [c162]) ?_
  (refine Runs.of_step Orc.nothing 300 ?_; simp -implicitDefEqProofs only [BB, Int.reduceEq, Int.reduceNe, Int.reduceLT, Int.reduceLE, Int.reduceGT, Int.reduceGE, Nat.reduceEqDiff, Nat.reduceAdd, Nat.reduceMul, Nat.reduceLeDiff, Nat.reduceSub, Nat.reduceLT, Nat.reduceBEq, ↓reduceIte, reduceCtorEq, ← decide_not, okind, vpre, vpure, intBin, intPre, strBin, strPre, popTo, argSlots, fldV, fldAV, subCells, idxVV, idxAAV, idxSV, sliceV, sliceSV, boundV, szIs, storeOp, storeS, setRowV, eff, extV, buildV, splice, eqSV, fitsL, eqCells, eqCell, minmaxV, capV, binBV, nilCheckV, bytesV, V.cells, V.stays, Orc.nothing, c162])
  refine effR_new fun id1 σ1 s1 a1 f1 => ?_
  simp -implicitDefEqProofs only [BB, Int.reduceEq, Int.reduceNe, Int.reduceLT, Int.reduceLE, Int.reduceGT, Int.reduceGE, Nat.reduceEqDiff, Nat.reduceAdd, Nat.reduceMul, Nat.reduceLeDiff, Nat.reduceSub, Nat.reduceLT, Nat.reduceBEq, ↓reduceIte, reduceCtorEq, ← decide_not, okind, vpre, vpure, intBin, intPre, strBin, strPre, popTo, argSlots, fldV, fldAV, subCells, idxVV, idxAAV, idxSV, sliceV, sliceSV, boundV, szIs, storeOp, storeS, setRowV, eff, extV, buildV, splice, eqSV, fitsL, eqCells, eqCell, minmaxV, capV, binBV, nilCheckV, bytesV, V.cells, V.stays]
  refine effR_new fun id2 σ2 s2 a2 f2 => ?_
  have b1 := s2 _ _ a1
  simp -implicitDefEqProofs only [BB, Int.reduceEq, Int.reduceNe, Int.reduceLT, Int.reduceLE, Int.reduceGT, Int.reduceGE, Nat.reduceEqDiff, Nat.reduceAdd, Nat.reduceMul, Nat.reduceLeDiff, Nat.reduceSub, Nat.reduceLT, Nat.reduceBEq, ↓reduceIte, reduceCtorEq, ← decide_not, okind, vpre, vpure, intBin, intPre, strBin, strPre, popTo, argSlots, fldV, fldAV, subCells, idxVV, idxAAV, idxSV, sliceV, sliceSV, boundV, szIs, storeOp, storeS, setRowV, eff, extV, buildV, splice, eqSV, fitsL, eqCells, eqCell, minmaxV, capV, binBV, nilCheckV, bytesV, V.cells, V.stays, b1, a2]
  exact retN s1 s2 f2 fun τ hs => wk_nd hs 4 1 0 0 0 d w h Sty.zero
theorem mblock_c (s : List Int) (hs : s.length = 12) (x : V) (hx : x.cells.length = 1) (hxs : x.stays = true) : PFun Tryd.prog 160 [.agg (s.map vI ++ [x])] (encN (ndS (.block s []))) := fun σ => by
  refine Contract.of_runs Tryd.func160 e160 k160 (by simp [c160]) ?_
  match s, hs with
  | [a, b, c, d, e, f, g, h, i, j, k, l], _ =>
    simp only [List.map_cons, List.map_nil, List.cons_append, List.nil_append]
    have hst : (V.agg [vI a, vI b, vI c, vI d, vI e, vI f, vI g, vI h, vI i, vI j, vI k, vI l, x]).stays = true := rfl
    (refine Runs.of_step Orc.nothing 300 ?_; simp -implicitDefEqProofs only [BB, Int.reduceEq, Int.reduceNe, Int.reduceLT, Int.reduceLE, Int.reduceGT, Int.reduceGE, Nat.reduceEqDiff, Nat.reduceAdd, Nat.reduceMul, Nat.reduceLeDiff, Nat.reduceSub, Nat.reduceLT, Nat.reduceBEq, ↓reduceIte, reduceCtorEq, ← decide_not, okind, vpre, vpure, intBin, intPre, strBin, strPre, popTo, argSlots, fldV, fldAV, subCells, idxVV, idxAAV, idxSV, sliceV, sliceSV, boundV, szIs, storeOp, storeS, setRowV, eff, extV, buildV, splice, eqSV, fitsL, eqCells, eqCell, minmaxV, capV, binBV, nilCheckV, bytesV, V.cells, V.stays, Orc.nothing, c160, hxs])
    refine effR_new fun id1 σ1 s1 a1 f1 => ?_
    simp -implicitDefEqProofs only [BB, Int.reduceEq, Int.reduceNe, Int.reduceLT, Int.reduceLE, Int.reduceGT, Int.reduceGE, Nat.reduceEqDiff, Nat.reduceAdd, Nat.reduceMul, Nat.reduceLeDiff, Nat.reduceSub, Nat.reduceLT, Nat.reduceBEq, ↓reduceIte, reduceCtorEq, ← decide_not, okind, vpre, vpure, intBin, intPre, strBin, strPre, popTo, argSlots, fldV, fldAV, subCells, idxVV, idxAAV, idxSV, sliceV, sliceSV, boundV, szIs, storeOp, storeS, setRowV, eff, extV, buildV, splice, eqSV, fitsL, eqCells, eqCell, minmaxV, capV, binBV, nilCheckV, bytesV, V.cells, V.stays]
    refine effR_new fun id2 σ2 s2 a2 f2 => ?_
    have b1 := s2 _ _ a1
    simp -implicitDefEqProofs only [BB, Int.reduceEq, Int.reduceNe, Int.reduceLT, Int.reduceLE, Int.reduceGT, Int.reduceGE, Nat.reduceEqDiff, Nat.reduceAdd, Nat.reduceMul, Nat.reduceLeDiff, Nat.reduceSub, Nat.reduceLT, Nat.reduceBEq, ↓reduceIte, reduceCtorEq, ← decide_not, okind, vpre, vpure, intBin, intPre, strBin, strPre, popTo, argSlots, fldV, fldAV, subCells, idxVV, idxAAV, idxSV, sliceV, sliceSV, boundV, szIs, storeOp, storeS, setRowV, eff, extV, buildV, splice, eqSV, fitsL, eqCells, eqCell, minmaxV, capV, binBV, nilCheckV, bytesV, V.cells, V.stays, b1, a2]
    exact retN s1 s2 f2 fun τ hs => wk_nd hs 1 1 0 0 0 0 0 0 ⟨a, b, c, d, e, f, g, h, i, j, k, l⟩
theorem slice2 (σ : Store) (x y : V) (l : List V) : sliceV σ 1 (.sl 1 (x :: y :: l)) (some (.int .i64 2)) none none = some (.sl 1 l) := by
  simp only [sliceV, boundV, List.length_cons]
  rw [if_pos ⟨by omega, by omega, by omega, by omega, trivial⟩]
  simp
  exact List.take_of_length_le (by omega)
theorem at0 (σ : Store) (x y : V) (l : List V) : idxAV σ 1 (.sl 1 (x :: y :: l)) (.int .i64 0) = some (.rp x) := by simp [idxAV]
theorem at1 (σ : Store) (x y : V) (l : List V) : idxAV σ 1 (.sl 1 (x :: y :: l)) (.int .i64 1) = some (.rp y) := by simp [idxAV]
theorem mtext_c (a b : Int) (r : List Int) : PFun Tryd.prog 161 [.agg [.sl 1 ((a :: b :: r).map vI)]] (encN (ndS (.text (a :: b :: r)))) := fun σ => by
  refine Contract.of_runs Tryd.func161 e161 k161 (by simp [c161]) ?_
  simp only [List.map_cons]
  (refine Runs.of_step Orc.nothing 300 ?_; simp -implicitDefEqProofs only [BB, Int.reduceEq, Int.reduceNe, Int.reduceLT, Int.reduceLE, Int.reduceGT, Int.reduceGE, Nat.reduceEqDiff, Nat.reduceAdd, Nat.reduceMul, Nat.reduceLeDiff, Nat.reduceSub, Nat.reduceLT, Nat.reduceBEq, ↓reduceIte, reduceCtorEq, ← decide_not, okind, vpre, vpure, intBin, intPre, strBin, strPre, popTo, argSlots, fldV, fldAV, subCells, idxVV, idxAAV, idxSV, sliceV, sliceSV, boundV, szIs, storeOp, storeS, setRowV, eff, extV, buildV, splice, eqSV, fitsL, eqCells, eqCell, minmaxV, capV, binBV, nilCheckV, bytesV, V.cells, V.stays, Orc.nothing, c161])
  refine effR_new fun id1 σ1 s1 a1 f1 => ?_
  simp -implicitDefEqProofs only [BB, Int.reduceEq, Int.reduceNe, Int.reduceLT, Int.reduceLE, Int.reduceGT, Int.reduceGE, Nat.reduceEqDiff, Nat.reduceAdd, Nat.reduceMul, Nat.reduceLeDiff, Nat.reduceSub, Nat.reduceLT, Nat.reduceBEq, ↓reduceIte, reduceCtorEq, ← decide_not, okind, vpre, vpure, intBin, intPre, strBin, strPre, popTo, argSlots, fldV, fldAV, subCells, idxVV, idxAAV, idxSV, sliceV, sliceSV, boundV, szIs, storeOp, storeS, setRowV, eff, extV, buildV, splice, eqSV, fitsL, eqCells, eqCell, minmaxV, capV, binBV, nilCheckV, bytesV, V.cells, V.stays]
  refine effR_new fun id2 σ2 s2 a2 f2 => ?_
  have b1 := s2 _ _ a1
  simp -implicitDefEqProofs only [BB, Int.reduceEq, Int.reduceNe, Int.reduceLT, Int.reduceLE, Int.reduceGT, Int.reduceGE, Nat.reduceEqDiff, Nat.reduceAdd, Nat.reduceMul, Nat.reduceLeDiff, Nat.reduceSub, Nat.reduceLT, Nat.reduceBEq, ↓reduceIte, reduceCtorEq, ← decide_not, okind, vpre, vpure, intBin, intPre, strBin, strPre, popTo, argSlots, fldV, fldAV, subCells, idxVV, idxAAV, idxSV, sliceSV, boundV, szIs, storeOp, storeS, setRowV, eff, extV, buildV, splice, eqSV, fitsL, eqCells, eqCell, minmaxV, capV, binBV, nilCheckV, bytesV, V.cells, V.stays, b1, a2, at0, at1, slice2]
  exact retN s1 s2 f2 fun τ hs => Wk.refl hs _
end Go.Vc
namespace Go.Vc
open Go.Proofs
mutual
/-- the nodes of a shape; of shapes -/
def toldS : Shp → List Nd
  | .box w h => [ndS (.box w h)]
  | .block s inner => { ndS (.block s inner) with size := 1 + ((toldL inner).length : Int) } :: toldL inner
  | .text ns => [ndS (.text ns)]
  | .float w h d => [ndS (.float w h d)]
def toldL : List Shp → List Nd
  | [] => []
  | x :: l => toldS x ++ toldL l
/-- twelve numbers in each block, two and more in each text -/
def wfS : Shp → Prop
  | .box _ _ => True
  | .block s inner => s.length = 12 ∧ wfL inner
  | .text ns => 2 ≤ ns.length
  | .float _ _ _ => True
def wfL : List Shp → Prop
  | [] => True
  | x :: l => wfS x ∧ wfL l
end
theorem toldL_append (a b : List Shp) : toldL (a ++ b) = toldL a ++ toldL b := by
  induction a with
  | nil => simp [toldL]
  | cons x l ih => simp [toldL, ih]
theorem wfL_get {l : List Shp} (h : wfL l) {i : Nat} (hi : i < l.length) : wfS l[i] := by
  induction l generalizing i with
  | nil => simp at hi
  | cons x l ih =>
    rw [wfL] at h
    cases i with
    | zero => exact h.1
    | succ i => exact ih h.2 (by simpa using hi)
theorem toldL_take {l : List Shp} {i : Nat} (hi : i < l.length) : toldL (l.take (i + 1)) = toldL (l.take i) ++ toldS l[i] := by
  rw [List.take_succ, toldL_append, List.getElem?_eq_getElem hi]
  simp [toldL]
theorem toldL_mem {l : List Shp} {i : Nat} (hi : i < l.length) : (toldL (l.take i)).length + (toldS l[i]).length ≤ (toldL l).length := by
  have h1 : toldL l = toldL (l.take (i + 1)) ++ toldL (l.drop (i + 1)) := by rw [← toldL_append, List.take_append_drop]
  rw [h1, toldL_take hi]
  simp only [List.length_append]
  omega
theorem toldL_ge (l : List Shp) : l.length ≤ (toldL l).length := by
  induction l with
  | nil => simp
  | cons x l ih =>
    rw [toldL, List.length_append, List.length_cons]
    have : 1 ≤ (toldS x).length := by cases x <;> simp [toldS]
    omega
theorem idx_shp (σ : Store) {l : List Shp} {i : Nat} (hi : i < l.length) : idxAV σ 1 (.sl 1 (l.map encS)) (.int .i64 i) = some (.rp (encS l[i])) := by
  simp [idxAV, hi]
theorem loadV_rp_shp (σ : Store) (sz : Nat) (x : Shp) : loadV σ false sz (.rp (encS x)) = some (encS x) := by cases x <;> simp [encS, loadV]
/-- the method of a shape -/
theorem meth_c (x : Shp) (h : wfS x) : ∃ t v f, encS x = .iface t v ∧ ([(105, 159), (109, 160), (140, 161), (142, 162)] : List (TypeId × FuncId)).lookup t = some f ∧ PFun Tryd.prog f [v] (encN (ndS x)) := by
  cases x with
  | box w v => exact ⟨105, .agg [vI w, vI v], 159, by rw [encS], rfl, mbox_c w v⟩
  | float w v d => exact ⟨142, .agg [vI w, vI v, vI d], 162, by rw [encS], rfl, mfloat_c w v d⟩
  | block s inner =>
    rw [wfS] at h
    exact ⟨_, _, _, by rw [encS], rfl, mblock_c s h.1 (.sl 1 (encSs inner)) rfl rfl⟩
  | text ns =>
    rw [wfS] at h
    match ns, h with
    | a :: b :: r, _ => exact ⟨_, _, _, by rw [encS], rfl, mtext_c a b r⟩
set_option maxRecDepth 100000 in
theorem told_c : ∀ (F : Nat) (xs : List Shp), (toldL xs).length ≤ F → (toldL xs).length ≤ 1000000 → xs.length ≤ 1000000 → wfL xs → PFun Tryd.prog 35 [.sl 1 (xs.map encS)] (encNs (toldL xs)) := by
  intro F
  induction F using Nat.strongRecOn with
  | _ F ih =>
    intro xs hF hl hxl hwf σ
    refine Contract.of_runs Tryd.func35 e35 k35 (by simp [c35]) ?_
    refine Runs.mix 10 ?_
    have hlen : lenV false (.sl 1 (xs.map encS)) = some (.int .i64 (xs.length : Int)) := by simp [lenV]
    (refine Runs.of_step Orc.nothing 300 ?_; simp -implicitDefEqProofs only [BB, effR_some, effD_some, Int.reduceEq, Int.reduceNe, Int.reduceLT, Int.reduceLE, Int.reduceGT, Int.reduceGE, Nat.reduceEqDiff, Nat.reduceAdd, Nat.reduceMul, Nat.reduceLeDiff, Nat.reduceSub, Nat.reduceLT, Nat.reduceBEq, ↓reduceIte, reduceCtorEq, ← decide_not, okind, vpre, vpure, intBin, intPre, strBin, strPre, popTo, argSlots, fldV, fldAV, subCells, idxVV, idxAAV, idxSV, sliceV, sliceSV, boundV, szIs, storeOp, storeS, setRowV, eff, extV, buildV, splice, eqSV, fitsL, eqCells, eqCell, minmaxV, capV, binBV, nilCheckV, bytesV, V.cells, V.stays, Orc.nothing, c35, hlen])
    refine Runs.loop (fun m st => ∃ i, i ≤ xs.length ∧ m = xs.length - i ∧ SubStore σ st.σ ∧ OutV σ st.σ 37 20 (st.s 3) ((toldL (xs.take i)).map encN) ∧ st.s 10 = .sl 1 (xs.map encS) ∧ st.s 11 = vI (xs.length : Int) ∧ st.s 12 = vI (i : Int)) xs.length
      ⟨0, by omega, by omega, SubStore.refl σ, OutV.start, rfl, rfl, rfl⟩ ?_
    rintro m ⟨S, σc⟩ ⟨i, hi, rfl, sub, out, p10, p11, p12⟩
    simp only at sub out p10 p11 p12
    refine Runs.mix 10 ?_
    by_cases hlt : i < xs.length
    · have hlt' : ((i : Int) < (xs.length : Int)) = True := by simp [hlt]
      have hix := idx_shp σc hlt
      (refine Runs.of_step Orc.nothing 300 ?_; simp -implicitDefEqProofs only [BB, effR_some, effD_some, Int.reduceEq, Int.reduceNe, Int.reduceLT, Int.reduceLE, Int.reduceGT, Int.reduceGE, Nat.reduceEqDiff, Nat.reduceAdd, Nat.reduceMul, Nat.reduceLeDiff, Nat.reduceSub, Nat.reduceLT, Nat.reduceBEq, ↓reduceIte, reduceCtorEq, ← decide_not, okind, vpre, vpure, intBin, intPre, strBin, strPre, popTo, argSlots, fldV, fldAV, subCells, idxVV, idxAAV, idxSV, sliceV, sliceSV, boundV, szIs, storeOp, storeS, setRowV, eff, extV, buildV, splice, eqSV, fitsL, eqCells, eqCell, minmaxV, capV, binBV, nilCheckV, bytesV, V.cells, V.stays, Orc.nothing, p10, p11, p12, hlt', hix, loadV_rp_shp])
      obtain ⟨t, v, f, h1, h2, h3⟩ := meth_c xs[i] (wfL_get hwf hlt)
      refine Runs.inv (t := t) (v := v) rfl rfl (by exact h1) h2 (h3 _) ?_
      rintro r1 σ1 ⟨rfl, rfl⟩
      (refine Runs.of_step Orc.nothing 300 ?_; simp -implicitDefEqProofs only [BB, Int.reduceEq, Int.reduceNe, Int.reduceLT, Int.reduceLE, Int.reduceGT, Int.reduceGE, Nat.reduceEqDiff, Nat.reduceAdd, Nat.reduceMul, Nat.reduceLeDiff, Nat.reduceSub, Nat.reduceLT, Nat.reduceBEq, ↓reduceIte, reduceCtorEq, ← decide_not, okind, vpre, vpure, intBin, intPre, strBin, strPre, popTo, argSlots, fldV, fldAV, subCells, idxVV, idxAAV, idxSV, sliceV, sliceSV, boundV, szIs, storeOp, storeS, setRowV, eff, extV, buildV, splice, eqSV, fitsL, eqCells, eqCell, minmaxV, capV, binBV, nilCheckV, bytesV, V.cells, V.stays, Orc.nothing])
      refine effR_new fun id6 σ6 s6 a6 f6 => ?_
      have z6 : σ id6 = none := sub.none f6
      have sub6 : SubStore σ σ6 := sub.trans s6
      have out6 := out.mono s6
      have htas : tasV 109 true (.agg [.int .i64 0, .int .i64 0, .int .i64 0, .int .i64 0, .int .i64 0, .int .i64 0, .int .i64 0, .int .i64 0, .int .i64 0, .int .i64 0, .int .i64 0, .int .i64 0, .nils]) (encS xs[i]) = (match xs[i] with
        | .block s inner => some (.tup [.agg (s.map vI ++ [.sl 1 (encSs inner)]), .bool true])
        | _ => some (.tup [.agg [.int .i64 0, .int .i64 0, .int .i64 0, .int .i64 0, .int .i64 0, .int .i64 0, .int .i64 0, .int .i64 0, .int .i64 0, .int .i64 0, .int .i64 0, .int .i64 0, .nils], .bool false])) := by
        cases xs[i] <;> simp [encS, tasV]
      have hwx := wfL_get hwf hlt
      have htk := toldL_take hlt
      have hmem := toldL_mem hlt
      generalize hx : xs[i] = x at *
      have plain : (∀ s inner, x ≠ .block s inner) → toldS x = [ndS x] ∧ tasV 109 true (.agg [.int .i64 0, .int .i64 0, .int .i64 0, .int .i64 0, .int .i64 0, .int .i64 0, .int .i64 0, .int .i64 0, .int .i64 0, .int .i64 0, .int .i64 0, .int .i64 0, .nils]) (encS x) = some (.tup [.agg [.int .i64 0, .int .i64 0, .int .i64 0, .int .i64 0, .int .i64 0, .int .i64 0, .int .i64 0, .int .i64 0, .int .i64 0, .int .i64 0, .int .i64 0, .int .i64 0, .nils], .bool false]) := by
        intro hb
        cases x with
        | block s inner => exact absurd rfl (hb s inner)
        | box w h => exact ⟨by rw [toldS], htas⟩
        | text ns => exact ⟨by rw [toldS], htas⟩
        | float w h d => exact ⟨by rw [toldS], htas⟩
      by_cases hb : ∃ s inner, x = .block s inner
      · obtain ⟨s, inner, rfl⟩ := hb
        simp only at htas
        rw [wfS] at hwx
        rw [encSs_eq] at htas
        generalize hxv : encS (Shp.block s inner) = xv at *
        have hbs : toldS (.block s inner) = { ndS (.block s inner) with size := 1 + ((toldL inner).length : Int) } :: toldL inner := by rw [toldS]
        rw [hbs] at htk hmem
        simp only [List.length_cons] at hmem
        have hcl : (s.map vI ++ [V.sl 1 (inner.map encS)]).length = 13 := by simp [hwx.1]
        have hs00 : setRowV (.agg [.int .i64 0, .int .i64 0, .int .i64 0, .int .i64 0, .int .i64 0, .int .i64 0, .int .i64 0, .int .i64 0, .int .i64 0, .int .i64 0, .int .i64 0, .int .i64 0, .nils]) 0 13 (.agg (s.map vI ++ [.sl 1 (inner.map encS)])) = some (.agg (s.map vI ++ [.sl 1 (inner.map encS)])) := by
          unfold setRowV
          rw [if_pos ⟨hcl, rfl⟩, if_pos ⟨rfl, rfl⟩]
        have h12 : (s.map vI ++ [V.sl 1 (inner.map encS)])[12]? = some (.sl 1 (inner.map encS)) := by
          rw [List.getElem?_append_right (by simp [hwx.1])]; simp [hwx.1]
        generalize hy : ndS (Shp.block s inner) = y at *
        have hysz : y.size = 1 := by rw [← hy]; rfl
        simp -implicitDefEqProofs only [BB, Int.reduceEq, Int.reduceNe, Int.reduceLT, Int.reduceLE, Int.reduceGT, Int.reduceGE, Nat.reduceEqDiff, Nat.reduceAdd, Nat.reduceMul, Nat.reduceLeDiff, Nat.reduceSub, Nat.reduceLT, Nat.reduceBEq, ↓reduceIte, reduceCtorEq, ← decide_not, okind, vpre, vpure, intBin, intPre, strBin, strPre, popTo, argSlots, fldV, fldAV, subCells, idxVV, idxAAV, idxSV, sliceV, sliceSV, boundV, szIs, storeOp, storeS, setRowV, eff, extV, buildV, splice, eqSV, fitsL, eqCells, eqCell, minmaxV, capV, binBV, nilCheckV, bytesV, V.cells, V.stays, a6, encN, Nd.cells, htas]
        refine effR_new fun id7 σ7 s7 a7 f7 => ?_
        have b6 : σ7 id6 = some ⟨37, 20, [.agg y.cells]⟩ := s7 _ _ upd_same
        have n67 : id6 ≠ id7 := ne_new (σ := upd σ6 id6 ⟨37, 20, [.agg y.cells]⟩) upd_same f7
        have S1 := s6.updK (o := ⟨37, 20, [.agg y.cells]⟩) f6
        simp only [Nd.cells, hysz] at b6
        simp -implicitDefEqProofs only [BB, Int.reduceEq, Int.reduceNe, Int.reduceLT, Int.reduceLE, Int.reduceGT, Int.reduceGE, Nat.reduceEqDiff, Nat.reduceAdd, Nat.reduceMul, Nat.reduceLeDiff, Nat.reduceSub, Nat.reduceLT, Nat.reduceBEq, ↓reduceIte, reduceCtorEq, ← decide_not, okind, vpre, vpure, intBin, intPre, strBin, strPre, popTo, argSlots, fldV, fldAV, subCells, idxVV, idxAAV, idxSV, sliceV, sliceSV, boundV, szIs, storeOp, storeS, eff, extV, buildV, splice, eqSV, fitsL, eqCells, eqCell, minmaxV, capV, binBV, nilCheckV, bytesV, V.cells, V.stays, a7, hs00, h12, V.cells_agg]
        have hge := toldL_ge inner
        refine Runs.pcall rfl rfl rfl (ih (toldL inner).length (by omega) inner (Nat.le_refl _) (by omega) (by omega) hwx.2 _) ?_
        have hle : lenV false (encNs (toldL inner)) = some (.int .i64 ((toldL inner).length : Int)) := by simp [encNs, lenV]
        have hin1 : inR .i64 (1 + ((toldL inner).length : Int)) := inR_i64 (by omega) (by omega)
        (refine Runs.of_step Orc.nothing 300 ?_; simp -implicitDefEqProofs only [BB, Int.reduceEq, Int.reduceNe, Int.reduceLT, Int.reduceLE, Int.reduceGT, Int.reduceGE, Nat.reduceEqDiff, Nat.reduceAdd, Nat.reduceMul, Nat.reduceLeDiff, Nat.reduceSub, Nat.reduceLT, Nat.reduceBEq, ↓reduceIte, reduceCtorEq, ← decide_not, okind, vpre, vpure, intBin, intPre, strBin, strPre, popTo, argSlots, fldV, fldAV, subCells, idxVV, idxAAV, idxSV, sliceV, sliceSV, boundV, szIs, storeOp, storeS, setRowV, eff, extV, buildV, splice, eqSV, fitsL, eqCells, eqCell, minmaxV, capV, binBV, nilCheckV, bytesV, V.cells, V.stays, Orc.nothing, b6, upd_ne n67, hle, hin1])
        refine effR_new fun id40 σ40 s40 a40 f40 => ?_
        have S2 := SubStore.trans (SubStore.updK (S1.trans (s7.updK f7)) f6) s40
        obtain ⟨idA, hda, hdA⟩ := out.dst' S2
        have hb : ((toldL (xs.take i)).length + 1) * 177 ≤ 140737488355328 := by omega
        simp -implicitDefEqProofs only [BB, Int.reduceEq, Int.reduceNe, Int.reduceLT, Int.reduceLE, Int.reduceGT, Int.reduceGE, Nat.reduceEqDiff, Nat.reduceAdd, Nat.reduceMul, Nat.reduceLeDiff, Nat.reduceSub, Nat.reduceLT, Nat.reduceBEq, ↓reduceIte, reduceCtorEq, ← decide_not, okind, vpre, vpure, intBin, intPre, strBin, strPre, popTo, argSlots, fldV, fldAV, subCells, idxVV, idxAAV, idxSV, sliceV, sliceSV, boundV, szIs, storeOp, storeS, setRowV, eff, extV, buildV, splice, eqSV, fitsL, eqCells, eqCell, minmaxV, capV, binBV, nilCheckV, bytesV, V.cells_agg, V.cells_int, V.cells_nils, V.cells_own, V.cells_sl, V.cells_str, V.cells_bool, V.cells_fn, V.cells_ptr, V.cells_rp, V.stays_agg, V.stays_int, V.stays_nils, V.stays_own, V.stays_sl, V.stays_str, V.stays_bool, V.stays_fn, V.stays_ptr, V.stays_rp, hda, srcOne a40, List.length_map, hb]
        refine effR_put fun id41 σ41 s41 a41 f41 => ?_
        have keep41 : ∀ q o, σ q = some o → σ41 q = some o := fun q o ho => keepA hdA s41 q o (by rw [ho]; simp) (S2 _ _ (sub _ _ ho))
        have out41 := OutV.new (K := σ) (n := (toldL (xs.take i)).length + 1) (by simp) a41 (sub.none (S2.none f41))
        obtain ⟨idB, hdb, hdB⟩ := out41.dst' (SubStore.refl σ41)
        have hsr : srcRows σ41 20 (encNs (toldL inner)) = some ((toldL inner).map encN) := by simp [encNs, srcRows]
        have hb2 : ((toldL (xs.take i)).length + 1 + (toldL inner).length) * 177 ≤ 140737488355328 := by omega
        simp -implicitDefEqProofs only [BB, Int.reduceEq, Int.reduceNe, Int.reduceLT, Int.reduceLE, Int.reduceGT, Int.reduceGE, Nat.reduceEqDiff, Nat.reduceAdd, Nat.reduceMul, Nat.reduceLeDiff, Nat.reduceSub, Nat.reduceLT, Nat.reduceBEq, ↓reduceIte, reduceCtorEq, ← decide_not, okind, vpre, vpure, intBin, intPre, strBin, strPre, popTo, argSlots, fldV, fldAV, subCells, idxVV, idxAAV, idxSV, sliceV, sliceSV, boundV, szIs, storeOp, storeS, setRowV, eff, extV, buildV, splice, eqSV, fitsL, eqCells, eqCell, minmaxV, capV, binBV, nilCheckV, bytesV, V.cells_agg, V.cells_int, V.cells_nils, V.cells_own, V.cells_sl, V.cells_str, V.cells_bool, V.cells_fn, V.cells_ptr, V.cells_rp, V.stays_agg, V.stays_int, V.stays_nils, V.stays_own, V.stays_sl, V.stays_str, V.stays_bool, V.stays_fn, V.stays_ptr, V.stays_rp, hdb, hsr, List.length_append, List.length_map, hb2]
        refine effR_put fun id43 σ43 s43 a43 f43 => ?_
        have hin : inR .i64 ((i : Int) + 1) := inR_i64 (by omega) (by omega)
        simp -implicitDefEqProofs only [BB, Int.reduceEq, Int.reduceNe, Int.reduceLT, Int.reduceLE, Int.reduceGT, Int.reduceGE, Nat.reduceEqDiff, Nat.reduceAdd, Nat.reduceMul, Nat.reduceLeDiff, Nat.reduceSub, Nat.reduceLT, Nat.reduceBEq, ↓reduceIte, reduceCtorEq, ← decide_not, okind, vpre, vpure, intBin, intPre, strBin, strPre, popTo, argSlots, fldV, fldAV, subCells, idxVV, idxAAV, idxSV, sliceV, sliceSV, boundV, szIs, storeOp, storeS, setRowV, eff, extV, buildV, splice, eqSV, fitsL, eqCells, eqCell, minmaxV, capV, binBV, nilCheckV, bytesV, V.cells, V.stays, p10, p11, p12, hin]
        have sub43 : SubStore σ σ43 := fun q o ho => keepA hdB s43 q o (by rw [ho]; simp) (keep41 _ _ ho)
        refine ⟨xs.length - (i + 1), by omega, i + 1, by omega, rfl, sub43, ?_, by simp⟩
        rw [htk, List.map_append]
        refine OutV.new (by simp; omega) (by rw [a43]; simp [encN, Nd.cells, List.append_assoc]) (by
          cases hs : σ id43 with
          | none => rfl
          | some o => rw [keep41 _ _ hs] at f43; cases f43)
      · obtain ⟨q1, q2⟩ := plain fun s inner e => hb ⟨s, inner, e⟩
        rw [q1] at htk hmem
        simp only [List.length_cons, List.length_nil] at hmem
        generalize hy : ndS x = y at *
        simp -implicitDefEqProofs only [BB, Int.reduceEq, Int.reduceNe, Int.reduceLT, Int.reduceLE, Int.reduceGT, Int.reduceGE, Nat.reduceEqDiff, Nat.reduceAdd, Nat.reduceMul, Nat.reduceLeDiff, Nat.reduceSub, Nat.reduceLT, Nat.reduceBEq, ↓reduceIte, reduceCtorEq, ← decide_not, okind, vpre, vpure, intBin, intPre, strBin, strPre, popTo, argSlots, fldV, fldAV, subCells, idxVV, idxAAV, idxSV, sliceV, sliceSV, boundV, szIs, storeOp, storeS, setRowV, eff, extV, buildV, splice, eqSV, fitsL, eqCells, eqCell, minmaxV, capV, binBV, nilCheckV, bytesV, V.cells, V.stays, a6, encN, Nd.cells, q2]
        refine effR_new fun id7 σ7 s7 a7 f7 => ?_
        have b6 : σ7 id6 = some ⟨37, 20, [.agg y.cells]⟩ := s7 _ _ upd_same
        have n67 : id6 ≠ id7 := ne_new (σ := upd σ6 id6 ⟨37, 20, [.agg y.cells]⟩) upd_same f7
        have S1 := s6.updK (o := ⟨37, 20, [.agg y.cells]⟩) f6
        simp only [Nd.cells] at b6
        simp -implicitDefEqProofs only [BB, Int.reduceEq, Int.reduceNe, Int.reduceLT, Int.reduceLE, Int.reduceGT, Int.reduceGE, Nat.reduceEqDiff, Nat.reduceAdd, Nat.reduceMul, Nat.reduceLeDiff, Nat.reduceSub, Nat.reduceLT, Nat.reduceBEq, ↓reduceIte, reduceCtorEq, ← decide_not, okind, vpre, vpure, intBin, intPre, strBin, strPre, popTo, argSlots, fldV, fldAV, subCells, idxVV, idxAAV, idxSV, sliceV, sliceSV, boundV, szIs, storeOp, storeS, setRowV, eff, extV, buildV, splice, eqSV, fitsL, eqCells, eqCell, minmaxV, capV, binBV, nilCheckV, bytesV, V.cells, V.stays, a7, b6, upd_ne n67]
        refine effR_new fun id27 σ27 s27 a27 f27 => ?_
        have S2 := (S1.trans (s7.updK f7)).trans s27
        obtain ⟨idA, hda, hdA⟩ := out.dst' S2
        have hb : ((toldL (xs.take i)).length + 1) * 177 ≤ 140737488355328 := by omega
        simp -implicitDefEqProofs only [BB, Int.reduceEq, Int.reduceNe, Int.reduceLT, Int.reduceLE, Int.reduceGT, Int.reduceGE, Nat.reduceEqDiff, Nat.reduceAdd, Nat.reduceMul, Nat.reduceLeDiff, Nat.reduceSub, Nat.reduceLT, Nat.reduceBEq, ↓reduceIte, reduceCtorEq, ← decide_not, okind, vpre, vpure, intBin, intPre, strBin, strPre, popTo, argSlots, fldV, fldAV, subCells, idxVV, idxAAV, idxSV, sliceV, sliceSV, boundV, szIs, storeOp, storeS, setRowV, eff, extV, buildV, splice, eqSV, fitsL, eqCells, eqCell, minmaxV, capV, binBV, nilCheckV, bytesV, V.cells_agg, V.cells_int, V.cells_nils, V.cells_own, V.cells_sl, V.cells_str, V.cells_bool, V.cells_fn, V.cells_ptr, V.cells_rp, V.stays_agg, V.stays_int, V.stays_nils, V.stays_own, V.stays_sl, V.stays_str, V.stays_bool, V.stays_fn, V.stays_ptr, V.stays_rp, hda, srcOne a27, List.length_map, hb]
        refine effR_put fun id28 σ28 s28 a28 f28 => ?_
        have hin : inR .i64 ((i : Int) + 1) := inR_i64 (by omega) (by omega)
        simp -implicitDefEqProofs only [BB, Int.reduceEq, Int.reduceNe, Int.reduceLT, Int.reduceLE, Int.reduceGT, Int.reduceGE, Nat.reduceEqDiff, Nat.reduceAdd, Nat.reduceMul, Nat.reduceLeDiff, Nat.reduceSub, Nat.reduceLT, Nat.reduceBEq, ↓reduceIte, reduceCtorEq, ← decide_not, okind, vpre, vpure, intBin, intPre, strBin, strPre, popTo, argSlots, fldV, fldAV, subCells, idxVV, idxAAV, idxSV, sliceV, sliceSV, boundV, szIs, storeOp, storeS, setRowV, eff, extV, buildV, splice, eqSV, fitsL, eqCells, eqCell, minmaxV, capV, binBV, nilCheckV, bytesV, V.cells, V.stays, p10, p11, p12, hin]
        have sub28 : SubStore σ σ28 := fun q o ho => keepA hdA s28 q o (by rw [ho]; simp) (S2 _ _ (sub _ _ ho))
        refine ⟨xs.length - (i + 1), by omega, i + 1, by omega, rfl, sub28, ?_, by simp⟩
        rw [htk, List.map_append]
        exact OutV.new (by simp) (by rw [a28]; rfl) (sub.none (S2.none f28))
    · have e : i = xs.length := by omega
      subst e
      have hlt' : ((xs.length : Int) < (xs.length : Int)) = False := by simp
      (refine Runs.of_step Orc.nothing 300 ?_; simp -implicitDefEqProofs only [BB, effR_some, effD_some, Int.reduceEq, Int.reduceNe, Int.reduceLT, Int.reduceLE, Int.reduceGT, Int.reduceGE, Nat.reduceEqDiff, Nat.reduceAdd, Nat.reduceMul, Nat.reduceLeDiff, Nat.reduceSub, Nat.reduceLT, Nat.reduceBEq, ↓reduceIte, reduceCtorEq, ← decide_not, okind, vpre, vpure, intBin, intPre, strBin, strPre, popTo, argSlots, fldV, fldAV, subCells, idxVV, idxAAV, idxSV, sliceV, sliceSV, boundV, szIs, storeOp, storeS, setRowV, eff, extV, buildV, splice, eqSV, fitsL, eqCells, eqCell, minmaxV, capV, binBV, nilCheckV, bytesV, V.cells, V.stays, Orc.nothing, p10, p11, p12, hlt'])
      rw [List.take_length] at out
      exact out.retv sub rfl
end Go.Vc
namespace Go.Vc
open Go.Proofs
theorem textR_ge (l : List Tk) : 2 ≤ (textR l).1.length := by unfold textR; simp
theorem nodesR_wf : ∀ (f : Nat) (l : List Tk), wfL (nodesR f l).1 ∧ (toldL (nodesR f l).1).length + (nodesR f l).2.1.length ≤ l.length
  | 0, l => ⟨by simp [nodesR, wfL], by simp [nodesR, toldL]⟩
  | f + 1, l => by
    have hT : ∀ l w, wfL (if w = true then (([] : List Shp), l, true) else nodesR f l).1 ∧ (toldL (if w = true then (([] : List Shp), l, true) else nodesR f l).1).length + (if w = true then (([] : List Shp), l, true) else nodesR f l).2.1.length ≤ l.length := by
      intro l w
      split
      · exact ⟨by simp [wfL], by simp [toldL]⟩
      · exact nodesR_wf f l
    unfold nodesR
    split
    · rename_i hs
      have h1 := (takeR_yes hs).2
      have h2 := attrsT_len (fun _ => true) plainS l.tail false
      have h3 := hT (attrsT (fun _ => true) plainS l.tail false).2.1 (attrsT (fun _ => true) plainS l.tail false).2.2
      simp only
      generalize attrsT (fun _ => true) plainS l.tail false = a at *
      generalize (if a.2.2 = true then (([] : List Shp), a.2.1, true) else nodesR f a.2.1) = n at *
      have h4 := takeR_len 93 n.2.1 n.2.2
      generalize takeR 93 n.2.1 n.2.2 = c at *
      have h5 := hT c.1 c.2
      refine ⟨by rw [wfL, wfS]; exact ⟨⟨h2.1, h3.1⟩, h5.1⟩, ?_⟩
      rw [toldL, toldS]
      simp only [List.length_append, List.length_cons]
      omega
    · split
      · rename_i hs
        have h1 := textR_len hs
        have h2 := textR_ge l
        simp only
        have h5 := hT (textR l).2.1 (textR l).2.2
        refine ⟨by rw [wfL, wfS]; exact ⟨h2, h5.1⟩, ?_⟩
        rw [toldL, toldS]
        simp only [List.length_append, List.length_cons, List.length_nil]
        omega
      · split
        · rename_i hs
          have h1 := (takeR_yes hs).2
          have h2 := boxR_len 125 l.tail false
          simp only
          have h5 := hT (boxR 125 l.tail false).2.2.1 (boxR 125 l.tail false).2.2.2
          refine ⟨by rw [wfL, wfS]; exact ⟨trivial, h5.1⟩, ?_⟩
          rw [toldL, toldS]
          simp only [List.length_append, List.length_cons, List.length_nil]
          omega
        · split
          · rename_i hs
            have h1 := floatR_len hs
            have hx : ∃ w h d, (floatR l false).1 = .float w h d := ⟨_, _, _, rfl⟩
            simp only
            have h5 := hT (floatR l false).2.1 (floatR l false).2.2
            obtain ⟨w, v, d, hx⟩ := hx
            rw [hx]
            refine ⟨by rw [wfL, wfS]; exact ⟨trivial, h5.1⟩, ?_⟩
            rw [toldL, toldS]
            simp only [List.length_append, List.length_cons, List.length_nil]
            omega
          · exact ⟨by simp [wfL], by simp [toldL]⟩
theorem fromT_len : ∀ (L l : List Tk), fromT L = .ok l → l.length ≤ L.length
  | [], l, h => by simp only [fromT, Res.ok.injEq] at h; subst h; simp
  | t :: L, l, h => by
    unfold fromT at h
    split at h
    · cases h
    · cases hL : fromT L with
      | bad p => rw [hL] at h; simp [Res.cons] at h
      | ok m =>
        rw [hL] at h
        simp only [Res.cons, Res.ok.injEq] at h
        subst h
        have := fromT_len L m hL
        simp only [List.length_cons]; omega
theorem ofI_len {s : List UInt8} {l : List Tk} (h : ofI s false 0 = .ok l) : l.length ≤ s.length := by
  rw [← ofC_eq] at h
  unfold ofC at h
  split at h
  · exact Nat.le_trans (fromT_len _ _ h) (by simpa using allI_len s s.length 0 0 (by omega))
  · split at h <;> cases h
/-- what a script is read as -/
def readR (s : List UInt8) : List Nd × Int × Int := match ofI s false 0 with
  | .bad p => ([], p, 1)
  | .ok l => match (nodesR l.length l).2.1 with
    | t :: _ => ([], t.at', 1)
    | [] => if (nodesR l.length l).2.2 then ([], s.length, 1) else (toldL (nodesR l.length l).1, 0, 0)
def readV (r : List Nd × Int × Int) : V := .tup [encNs r.1, vI r.2.1, vI r.2.2]
theorem retE {σ : Store} {a b : Int} {τ : Store} (h : SubStore σ τ) : RetV (.tup [.nils, vI a, vI b]) τ fun r σ' => r = readV ([], a, b) ∧ σ' = σ :=
  ⟨_, σ, h, Wk.tup (by simp only [WkL]; exact ⟨Wk.nils 20, Wk.refl h _, Wk.refl h _, trivial⟩), rfl, rfl⟩
theorem readOf_c (s : List UInt8) (hs : s.length ≤ 1000000) : PFun Tryd.prog 12 [.str s] (readV (readR s)) := fun σ => by
  refine Contract.of_runs Tryd.func12 e12 k12 (by simp [c12]) ?_
  refine Runs.mix 8 ?_
  (refine Runs.of_step Orc.nothing 300 ?_; simp -implicitDefEqProofs only [BB, effR_some, effD_some, Int.reduceEq, Int.reduceNe, Int.reduceLT, Int.reduceLE, Int.reduceGT, Int.reduceGE, Nat.reduceEqDiff, Nat.reduceAdd, Nat.reduceMul, Nat.reduceLeDiff, Nat.reduceSub, Nat.reduceLT, Nat.reduceBEq, ↓reduceIte, reduceCtorEq, ← decide_not, okind, vpre, vpure, intBin, intPre, strBin, strPre, popTo, argSlots, fldV, fldAV, subCells, idxVV, idxAAV, idxSV, sliceV, sliceSV, boundV, szIs, storeOp, storeS, setRowV, eff, extV, buildV, splice, eqSV, fitsL, eqCells, eqCell, minmaxV, capV, binBV, nilCheckV, bytesV, V.cells, V.stays, Orc.nothing, c12])
  refine Runs.pcall rfl rfl rfl (of_lex s hs _) ?_
  cases hl : ofI s false 0 with
  | bad p =>
    have hr : readR s = ([], (p : Int), 1) := by rw [readR, hl]
    rw [hr]
    (refine Runs.of_step Orc.nothing 300 ?_; simp -implicitDefEqProofs only [BB, effR_some, effD_some, Int.reduceEq, Int.reduceNe, Int.reduceLT, Int.reduceLE, Int.reduceGT, Int.reduceGE, Nat.reduceEqDiff, Nat.reduceAdd, Nat.reduceMul, Nat.reduceLeDiff, Nat.reduceSub, Nat.reduceLT, Nat.reduceBEq, ↓reduceIte, reduceCtorEq, ← decide_not, okind, vpre, vpure, intBin, intPre, strBin, strPre, popTo, argSlots, fldV, fldAV, subCells, idxVV, idxAAV, idxSV, sliceV, sliceSV, boundV, szIs, storeOp, storeS, setRowV, eff, extV, buildV, splice, eqSV, fitsL, eqCells, eqCell, minmaxV, capV, binBV, nilCheckV, bytesV, V.cells, V.stays, Orc.nothing, resT])
    exact retE (SubStore.refl _)
  | ok l =>
    have hll := ofI_len hl
    (refine Runs.of_step Orc.nothing 300 ?_; simp -implicitDefEqProofs only [BB, Int.reduceEq, Int.reduceNe, Int.reduceLT, Int.reduceLE, Int.reduceGT, Int.reduceGE, Nat.reduceEqDiff, Nat.reduceAdd, Nat.reduceMul, Nat.reduceLeDiff, Nat.reduceSub, Nat.reduceLT, Nat.reduceBEq, ↓reduceIte, reduceCtorEq, ← decide_not, okind, vpre, vpure, intBin, intPre, strBin, strPre, popTo, argSlots, fldV, fldAV, subCells, idxVV, idxAAV, idxSV, sliceV, sliceSV, boundV, szIs, storeOp, storeS, setRowV, eff, extV, buildV, splice, eqSV, fitsL, eqCells, eqCell, minmaxV, capV, binBV, nilCheckV, bytesV, V.cells, V.stays, Orc.nothing, resT])
    refine effR_new fun id6 σ6 s6 a6 f6 => ?_
    have h6 : σ6 id6 = some (rdr l false) := a6
    simp -implicitDefEqProofs only [BB, Int.reduceEq, Int.reduceNe, Int.reduceLT, Int.reduceLE, Int.reduceGT, Int.reduceGE, Nat.reduceEqDiff, Nat.reduceAdd, Nat.reduceMul, Nat.reduceLeDiff, Nat.reduceSub, Nat.reduceLT, Nat.reduceBEq, ↓reduceIte, reduceCtorEq, ← decide_not, okind, vpre, vpure, intBin, intPre, strBin, strPre, popTo, argSlots, fldV, fldAV, subCells, idxVV, idxAAV, idxSV, sliceV, sliceSV, boundV, szIs, storeOp, storeS, setRowV, eff, extV, buildV, splice, eqSV, fitsL, eqCells, eqCell, minmaxV, capV, binBV, nilCheckV, bytesV, V.cells, V.stays]
    refine Runs.call rfl rfl rfl (nodes_c l.length σ6 id6 l false (Nat.le_refl _) (by omega) h6) ?_
    have hn0 : nodesT l.length l false = nodesR l.length l := rfl
    rw [hn0]
    have hwf := nodesR_wf l.length l
    generalize hn : nodesR l.length l = n at *
    rintro r1 σ7 ⟨rfl, hσ7⟩
    have hσ7 : σ7 = upd σ6 id6 (rdr n.2.1 n.2.2) := hσ7
    have sub7 : SubStore σ σ7 := by rw [hσ7]; exact s6.updK f6
    have h7 : σ7 id6 = some (rdr n.2.1 n.2.2) := by rw [hσ7]; exact upd_same
    cases hrest : n.2.1 with
    | cons t r =>
      have hr : readR s = ([], t.at', 1) := by rw [readR, hl]; simp only [hn, hrest]
      rw [hr]
      rw [hrest] at h7
      have h7 : σ7 id6 = some ⟨57, 2, [.agg [.sl 4 (encT t :: r.map encT), .bool n.2.2]]⟩ := h7
      (refine Runs.of_step Orc.nothing 300 ?_; simp -implicitDefEqProofs only [BB, effR_some, effD_some, Int.reduceEq, Int.reduceNe, Int.reduceLT, Int.reduceLE, Int.reduceGT, Int.reduceGE, Nat.reduceEqDiff, Nat.reduceAdd, Nat.reduceMul, Nat.reduceLeDiff, Nat.reduceSub, Nat.reduceLT, Nat.reduceBEq, ↓reduceIte, reduceCtorEq, ← decide_not, okind, vpre, vpure, intBin, intPre, strBin, strPre, popTo, argSlots, fldV, fldAV, subCells, idxVV, idxAAV, idxSV, sliceV, sliceSV, boundV, szIs, storeOp, storeS, setRowV, eff, extV, buildV, splice, eqSV, fitsL, eqCells, eqCell, minmaxV, capV, binBV, nilCheckV, bytesV, V.cells, V.stays, Orc.nothing, h7, len1, idx0])
      exact retE sub7
    | nil =>
      rw [hrest] at h7 hwf
      have h7 : σ7 id6 = some ⟨57, 2, [.agg [.sl 4 [], .bool n.2.2]]⟩ := h7
      cases hw : n.2.2 with
      | true =>
        have hr : readR s = ([], (s.length : Int), 1) := by rw [readR, hl]; simp only [hn, hrest, hw, if_true]
        rw [hr]
        rw [hw] at h7
        (refine Runs.of_step Orc.nothing 300 ?_; simp -implicitDefEqProofs only [BB, effR_some, effD_some, Int.reduceEq, Int.reduceNe, Int.reduceLT, Int.reduceLE, Int.reduceGT, Int.reduceGE, Nat.reduceEqDiff, Nat.reduceAdd, Nat.reduceMul, Nat.reduceLeDiff, Nat.reduceSub, Nat.reduceLT, Nat.reduceBEq, ↓reduceIte, reduceCtorEq, ← decide_not, okind, vpre, vpure, intBin, intPre, strBin, strPre, popTo, argSlots, fldV, fldAV, subCells, idxVV, idxAAV, idxSV, sliceV, sliceSV, boundV, szIs, storeOp, storeS, setRowV, eff, extV, buildV, splice, eqSV, fitsL, eqCells, eqCell, minmaxV, capV, binBV, nilCheckV, bytesV, V.cells, V.stays, Orc.nothing, h7, len0])
        exact retE sub7
      | false =>
        have hr : readR s = (toldL n.1, 0, 0) := by rw [readR, hl]; simp only [hn, hrest, hw, Bool.false_eq_true, if_false]
        rw [hr]
        rw [hw] at h7
        (refine Runs.of_step Orc.nothing 300 ?_; simp -implicitDefEqProofs only [BB, effR_some, effD_some, Int.reduceEq, Int.reduceNe, Int.reduceLT, Int.reduceLE, Int.reduceGT, Int.reduceGE, Nat.reduceEqDiff, Nat.reduceAdd, Nat.reduceMul, Nat.reduceLeDiff, Nat.reduceSub, Nat.reduceLT, Nat.reduceBEq, ↓reduceIte, reduceCtorEq, ← decide_not, okind, vpre, vpure, intBin, intPre, strBin, strPre, popTo, argSlots, fldV, fldAV, subCells, idxVV, idxAAV, idxSV, sliceV, sliceSV, boundV, szIs, storeOp, storeS, setRowV, eff, extV, buildV, splice, eqSV, fitsL, eqCells, eqCell, minmaxV, capV, binBV, nilCheckV, bytesV, V.cells, V.stays, Orc.nothing, h7, len0])
        simp only [List.length_nil, Nat.add_zero] at hwf
        refine Runs.pcall rfl rfl rfl (told_c l.length n.1 hwf.2 (by omega) (Nat.le_trans (toldL_ge _) (by omega)) hwf.1 _) ?_
        (refine Runs.of_step Orc.nothing 300 ?_; simp -implicitDefEqProofs only [BB, effR_some, effD_some, Int.reduceEq, Int.reduceNe, Int.reduceLT, Int.reduceLE, Int.reduceGT, Int.reduceGE, Nat.reduceEqDiff, Nat.reduceAdd, Nat.reduceMul, Nat.reduceLeDiff, Nat.reduceSub, Nat.reduceLT, Nat.reduceBEq, ↓reduceIte, reduceCtorEq, ← decide_not, okind, vpre, vpure, intBin, intPre, strBin, strPre, popTo, argSlots, fldV, fldAV, subCells, idxVV, idxAAV, idxSV, sliceV, sliceSV, boundV, szIs, storeOp, storeS, setRowV, eff, extV, buildV, splice, eqSV, fitsL, eqCells, eqCell, minmaxV, capV, binBV, nilCheckV, bytesV, V.cells, V.stays, Orc.nothing])
        exact RetV.pure sub7 rfl
end Go.Vc
namespace Go.Vc
open Go.Proofs
theorem readIs_c (s : List UInt8) (hs : s.length ≤ 1000000) : PFun Tryd.prog 15 [.str s] (.bool (decide ((readR s).2.2 = 0))) := fun σ => by
  refine Contract.of_runs Tryd.func15 e15 k15 (by simp [c15]) ?_
  refine Runs.mix 6 ?_
  (refine Runs.of_step Orc.nothing 300 ?_; simp -implicitDefEqProofs only [BB, effR_some, effD_some, Int.reduceEq, Int.reduceNe, Int.reduceLT, Int.reduceLE, Int.reduceGT, Int.reduceGE, Nat.reduceEqDiff, Nat.reduceAdd, Nat.reduceMul, Nat.reduceLeDiff, Nat.reduceSub, Nat.reduceLT, Nat.reduceBEq, ↓reduceIte, reduceCtorEq, ← decide_not, okind, vpre, vpure, intBin, intPre, strBin, strPre, popTo, argSlots, fldV, fldAV, subCells, idxVV, idxAAV, idxSV, sliceV, sliceSV, boundV, szIs, storeOp, storeS, setRowV, eff, extV, buildV, splice, eqSV, fitsL, eqCells, eqCell, minmaxV, capV, binBV, nilCheckV, bytesV, V.cells, V.stays, Orc.nothing, c15])
  refine Runs.pcall rfl rfl rfl (readOf_c s hs _) ?_
  (refine Runs.of_step Orc.nothing 300 ?_; simp -implicitDefEqProofs only [BB, effR_some, effD_some, Int.reduceEq, Int.reduceNe, Int.reduceLT, Int.reduceLE, Int.reduceGT, Int.reduceGE, Nat.reduceEqDiff, Nat.reduceAdd, Nat.reduceMul, Nat.reduceLeDiff, Nat.reduceSub, Nat.reduceLT, Nat.reduceBEq, ↓reduceIte, reduceCtorEq, ← decide_not, okind, vpre, vpure, intBin, intPre, strBin, strPre, popTo, argSlots, fldV, fldAV, subCells, idxVV, idxAAV, idxSV, sliceV, sliceSV, boundV, szIs, storeOp, storeS, setRowV, eff, extV, buildV, splice, eqSV, fitsL, eqCells, eqCell, minmaxV, capV, binBV, nilCheckV, bytesV, V.cells, V.stays, Orc.nothing, readV])
  exact RetV.same rfl
end Go.Vc
namespace Go.Vc
open Go.Proofs
theorem FzL.same {σ : Store} {N : Nat → Prop} : ∀ (vs : List V), noidL vs = true → FzL σ N vs vs
  | [], _ => .nil
  | v :: vs, h => by
    simp only [noidL, Bool.and_eq_true] at h
    exact .cons _ _ _ _ (.same v h.1) (FzL.same vs h.2)
theorem FzL.app {σ : Store} {N : Nat → Prop} : ∀ {a b c d : List V}, FzL σ N a b → FzL σ N c d → FzL σ N (a ++ c) (b ++ d)
  | _, _, _, _, .nil, h => h
  | _, _, _, _, .cons v u vs us h h', h2 => .cons v u _ _ h (FzL.app h' h2)
theorem FzL.one {σ : Store} {N : Nat → Prop} {v u : V} (h : Fz σ N v u) : FzL σ N [v] [u] := .cons _ _ _ _ h .nil
theorem OutV.upd_ne {K σ : Store} {e sz : Nat} {v : V} {rows : List V} (h : OutV K σ e sz v rows) {id : Nat} {o : Ob} (hK : K id ≠ none) : OutV K (upd σ id o) e sz v rows := by
  rcases h with h | ⟨q, h1, h2, h3⟩
  · exact .inl h
  · have : q ≠ id := fun e => hK (by rw [← e]; exact h3)
    exact .inr ⟨q, h1, by rw [Vc.upd_ne this]; exact h2, h3⟩
/-- a node's cells, its words' cell apart -/
abbrev ndPre (x : Nd) : List V := [vI x.kind, vI x.size, vI x.st.top, vI x.st.bottom, vI x.st.padTop, vI x.st.padBottom, vI x.st.inset, vI x.st.orphans, vI x.st.widows, vI x.st.head, vI x.st.before, vI x.st.after, vI x.st.inside, vI x.st.clear, vI x.line, vI x.space]
def ndW (x : Nd) (v : V) : V := .agg [vI x.kind, vI x.size, vI x.st.top, vI x.st.bottom, vI x.st.padTop, vI x.st.padBottom, vI x.st.inset, vI x.st.orphans, vI x.st.widows, vI x.st.head, vI x.st.before, vI x.st.after, vI x.st.inside, vI x.st.clear, vI x.line, vI x.space, v, vI x.side, vI x.w, vI x.h]
theorem fz_nd {σ : Store} {N : Nat → Prop} {x : Nd} {v : V} (h : Fz σ N v (encI x.words)) : Fz σ N (ndW x v) (encN x) := by
  refine .agg _ _ ?_
  exact (FzL.same (ndPre x) rfl).app ((FzL.one h).app (FzL.same [vI x.side, vI x.w, vI x.h] rfl))
structure XInv (K σ : Store) (id5 : Nat) (x : Nd) (v : V) : Prop where
  off : Off id5 K σ
  r5 : σ id5 = some ⟨37, 20, [ndW x v]⟩
  out : OutV K σ 3 1 v (x.words.map vI)
theorem XInv.push {K σ σ1 σ2 : Store} {id5 i2 : Nat} {x : Nd} {v : V} {n : Int} {idA : Option Nat} (inv : XInv K σ id5 x v) (hK : K id5 ≠ none) (s1 : SubStore σ σ1) (hA : ∀ i, idA = some i → K i = none ∧ ∃ o, σ i = some o)
    (s2 : SubStore (delO σ1 idA) σ2) (a2 : σ2 i2 = some ⟨3, 1, x.words.map vI ++ [vI n]⟩) (f2 : σ1 i2 = none) :
    XInv K (upd σ2 id5 ⟨37, 20, [ndW { x with words := x.words ++ [n] } (.own i2 0 (x.words.length + 1))]⟩) id5 { x with words := x.words ++ [n] } (.own i2 0 (x.words.length + 1)) where
  off := Off.upd fun q hq o ho => keepA hA s2 q o (by rw [ho]; simp) (s1 _ _ (inv.off q hq o ho))
  r5 := upd_same
  out := by
    have f : σ i2 = none := s1.none f2
    have hne : i2 ≠ id5 := fun e => by rw [e, inv.r5] at f; cases f
    refine OutV.new (by simp) (by rw [upd_ne hne, a2]; simp) ?_
    exact inv.off.none inv.r5 f
end Go.Vc
namespace Go.Vc
theorem len0_nil {l : List Tk} (h : l.length ≤ ([] : List Tk).length) : l = [] := List.length_eq_zero_iff.1 (by simpa using h)
theorem nodesR_none {f : Nat} {l : List Tk} (h1 : signB 91 l = false) (h2 : signB 40 l = false) (h3 : signB 123 l = false) (h4 : signB 60 l = false) : nodesR f l = ([], l, false) := by
  cases f with
  | zero => rfl
  | succ f => rw [nodesR, if_neg (by simp [h1]), if_neg (by simp [h2]), if_neg (by simp [h3]), if_neg (by simp [h4])]
theorem nodesR_block {f : Nat} {l : List Tk} (h1 : signB 91 l = true) : nodesR (f + 1) l = (Shp.block (attrsT (fun _ => true) plainS l.tail false).1 (nodesT f (attrsT (fun _ => true) plainS l.tail false).2.1 (attrsT (fun _ => true) plainS l.tail false).2.2).1 ::
    (nodesT f (takeR 93 (nodesT f (attrsT (fun _ => true) plainS l.tail false).2.1 (attrsT (fun _ => true) plainS l.tail false).2.2).2.1 (nodesT f (attrsT (fun _ => true) plainS l.tail false).2.1 (attrsT (fun _ => true) plainS l.tail false).2.2).2.2).1 (takeR 93 (nodesT f (attrsT (fun _ => true) plainS l.tail false).2.1 (attrsT (fun _ => true) plainS l.tail false).2.2).2.1 (nodesT f (attrsT (fun _ => true) plainS l.tail false).2.1 (attrsT (fun _ => true) plainS l.tail false).2.2).2.2).2).1,
    (nodesT f (takeR 93 (nodesT f (attrsT (fun _ => true) plainS l.tail false).2.1 (attrsT (fun _ => true) plainS l.tail false).2.2).2.1 (nodesT f (attrsT (fun _ => true) plainS l.tail false).2.1 (attrsT (fun _ => true) plainS l.tail false).2.2).2.2).1 (takeR 93 (nodesT f (attrsT (fun _ => true) plainS l.tail false).2.1 (attrsT (fun _ => true) plainS l.tail false).2.2).2.1 (nodesT f (attrsT (fun _ => true) plainS l.tail false).2.1 (attrsT (fun _ => true) plainS l.tail false).2.2).2.2).2).2) := by
  rw [nodesR, if_pos h1]; rfl
theorem nodesR_text {f : Nat} {l : List Tk} (h1 : signB 91 l = false) (h2 : signB 40 l = true) : nodesR (f + 1) l = (Shp.text (textR l).1 :: (nodesT f (textR l).2.1 (textR l).2.2).1, (nodesT f (textR l).2.1 (textR l).2.2).2) := by
  rw [nodesR, if_neg (by simp [h1]), if_pos h2]; rfl
theorem nodesR_box {f : Nat} {l : List Tk} (h1 : signB 91 l = false) (h2 : signB 40 l = false) (h3 : signB 123 l = true) : nodesR (f + 1) l = (Shp.box (boxR 125 l.tail false).1 (boxR 125 l.tail false).2.1 ::
    (nodesT f (boxR 125 l.tail false).2.2.1 (boxR 125 l.tail false).2.2.2).1, (nodesT f (boxR 125 l.tail false).2.2.1 (boxR 125 l.tail false).2.2.2).2) := by
  rw [nodesR, if_neg (by simp [h1]), if_neg (by simp [h2]), if_pos h3]; rfl
theorem nodesR_float {f : Nat} {l : List Tk} (h1 : signB 91 l = false) (h2 : signB 40 l = false) (h3 : signB 123 l = false) (h4 : signB 60 l = true) : nodesR (f + 1) l = ((floatR l false).1 ::
    (nodesT f (floatR l false).2.1 (floatR l false).2.2).1, (nodesT f (floatR l false).2.1 (floatR l false).2.2).2) := by
  rw [nodesR, if_neg (by simp [h1]), if_neg (by simp [h2]), if_neg (by simp [h3]), if_pos h4]; rfl
theorem sign_cases (l : List Tk) : signB 91 l = true ∨ (signB 91 l = false ∧ signB 40 l = true) ∨ (signB 91 l = false ∧ signB 40 l = false ∧ signB 123 l = true) ∨ (signB 91 l = false ∧ signB 40 l = false ∧ signB 123 l = false ∧ signB 60 l = true) ∨
    (signB 91 l = false ∧ signB 40 l = false ∧ signB 123 l = false ∧ signB 60 l = false) := by
  cases signB 91 l <;> cases signB 40 l <;> cases signB 123 l <;> cases signB 60 l <;> simp
end Go.Vc
namespace Go.Vc
theorem nodesT_false (f : Nat) (l : List Tk) : nodesT f l false = nodesR f l := rfl
end Go.Vc
namespace Go.Vc
theorem ofI_bad_lt (s : List UInt8) : ∀ (m i : Nat) (c : Bool), s.length - i ≤ m → ∀ p, ofI s c i = .bad p → p < s.length := by
  intro m
  induction m with
  | zero => intro i c hm l h; rw [ofI_end (by omega)] at h; cases h
  | succ m ih =>
    intro i c hm l h
    by_cases hlt : i < s.length
    · by_cases hz : sizeR s i = 0
      · rw [ofI_bad hlt hz] at h; cases h; exact hlt
      · have cons : ∀ (r : Res) (t : Tk), r.cons t = .bad l → r = .bad l := fun r t hr => by
          cases r with
          | ok l' => cases hr
          | bad q => cases hr; rfl
        cases c
        · by_cases h35 : byt s i = 35
          · rw [ofI_hash hlt hz h35] at h
            exact ih _ _ (by omega) l h
          · by_cases hw : byt s i = 32 ∨ byt s i = 9 ∨ byt s i = 10
            · rw [ofI_white hlt hz hw] at h
              exact ih _ _ (by omega) l h
            · by_cases hd : 48 ≤ byt s i ∧ byt s i ≤ 57
              · have hdp := digLen_pos hd.1 hd.2
                rw [ofI_num hlt hz hd] at h
                split at h
                · cases h; exact hlt
                · exact ih _ _ (by omega) l (cons _ _ h)
              · rw [ofI_sign hlt hz (by omega)] at h
                exact ih _ _ (by omega) l (cons _ _ h)
        · rw [ofI_com hlt hz] at h
          exact ih _ _ (by omega) l h
    · rw [ofI_end hlt] at h; cases h
theorem ofI_at (s : List UInt8) : ∀ (m i : Nat) (c : Bool), s.length - i ≤ m → ∀ l, ofI s c i = .ok l → ∀ t ∈ l, (i : Int) ≤ t.at' ∧ t.at' < s.length := by
  intro m
  induction m with
  | zero => intro i c hm l h; rw [ofI_end (by omega)] at h; cases h; simp
  | succ m ih =>
    intro i c hm l h t ht
    by_cases hlt : i < s.length
    · by_cases hz : sizeR s i = 0
      · rw [ofI_bad hlt hz] at h; cases h
      · have cons : ∀ (r : Res) (t : Tk), r.cons t = .ok l → ∃ l', r = .ok l' ∧ l = t :: l' := fun r t hr => by
          cases r with
          | ok l' => exact ⟨l', rfl, by simpa [Res.cons] using hr.symm⟩
          | bad => cases hr
        cases c
        · by_cases h35 : byt s i = 35
          · rw [ofI_hash hlt hz h35] at h
            have := ih _ _ (by omega) l h t ht; omega
          · by_cases hw : byt s i = 32 ∨ byt s i = 9 ∨ byt s i = 10
            · rw [ofI_white hlt hz hw] at h
              have := ih _ _ (by omega) l h t ht; omega
            · by_cases hd : 48 ≤ byt s i ∧ byt s i ≤ 57
              · have hdp := digLen_pos hd.1 hd.2
                rw [ofI_num hlt hz hd] at h
                split at h
                · cases h
                · obtain ⟨l', h1, rfl⟩ := cons _ _ h
                  rcases List.mem_cons.1 ht with rfl | ht
                  · simp only; omega
                  · have := ih _ _ (by omega) l' h1 t ht; omega
              · rw [ofI_sign hlt hz (by omega)] at h
                obtain ⟨l', h1, rfl⟩ := cons _ _ h
                rcases List.mem_cons.1 ht with rfl | ht
                · simp only; omega
                · have := ih _ _ (by omega) l' h1 t ht; omega
        · rw [ofI_com hlt hz] at h
          have := ih _ _ (by omega) l h t ht; omega
    · rw [ofI_end hlt] at h; cases h; cases ht
theorem rest_suffix_take (c : Int) (l : List Tk) (w : Bool) : ∃ p, l = p ++ (takeR c l w).1 := by
  unfold takeR
  split
  · exact ⟨[], rfl⟩
  · cases l with
    | nil => exact ⟨[], rfl⟩
    | cons t l => exact ⟨[t], rfl⟩
theorem rest_suffix_count (a b : Int) (l : List Tk) (w : Bool) : ∃ p, l = p ++ (countR a b l w).2.1 := by
  cases l with
  | nil => exact ⟨[], rfl⟩
  | cons t l =>
    rw [countR]
    split
    · exact ⟨[], rfl⟩
    · exact ⟨[t], rfl⟩
theorem rest_suffix_nums : ∀ (l : List Tk), ∃ p, l = p ++ (numsR l).2
  | [] => ⟨[], rfl⟩
  | t :: l => by
    rw [numsR]
    split
    · obtain ⟨p, hp⟩ := rest_suffix_nums l
      exact ⟨t :: p, by rw [List.cons_append, ← hp]⟩
    · exact ⟨[], rfl⟩
theorem suf_trans {l m n : List Tk} (h1 : ∃ p, l = p ++ m) (h2 : ∃ p, m = p ++ n) : ∃ p, l = p ++ n := by
  obtain ⟨p, rfl⟩ := h1
  obtain ⟨q, rfl⟩ := h2
  exact ⟨p ++ q, by simp⟩
theorem rest_suffix_attrs : ∀ (m : Nat) (l : List Tk) (av : Int → Bool) (s : List Int) (w : Bool), l.length ≤ m → ∃ p, l = p ++ (attrsT av s l w).2.1 := by
  intro m
  induction m with
  | zero =>
    intro l av s w hm
    have h0 : l = [] := List.length_eq_zero_iff.1 (by omega)
    subst h0
    exact ⟨[], by rw [len0_nil (attrsT_len av s [] w).2]; rfl⟩
  | succ m ih =>
    intro l av s w hm
    cases w with
    | true => exact ⟨[], rfl⟩
    | false =>
      cases l with
      | nil => exact ⟨[], by rw [len0_nil (attrsT_len av s [] false).2]; rfl⟩
      | cons t l =>
        by_cases h1 : t.kind = 1
        · cases h3 : av t.sign with
          | false =>
            refine ⟨[], ?_⟩
            rw [attrsT, if_neg (by simp), attrsR, if_pos h1, h3]
            rfl
          | true =>
            cases h4 : spec t.sign with
            | none =>
              refine ⟨[], ?_⟩
              rw [attrsT, if_neg (by simp), attrsR, if_pos h1, h3]
              simp only [if_true, h4, List.nil_append]
            | some q =>
              obtain ⟨k, a, b⟩ := q
              rw [attrsT, if_neg (by simp), attrsT_step h1 h3 h4]
              have hl := count_len a b l false
              simp only [List.length_cons] at hm
              obtain ⟨p, hp⟩ := suf_trans (rest_suffix_count a b l false) (ih _ (fun c => if c = t.sign then false else av c) (s.set k (countR a b l false).1) (countR a b l false).2.2 (by omega))
              exact ⟨t :: p, by rw [List.cons_append, ← hp]⟩
        · refine ⟨[], ?_⟩
          rw [attrsT, if_neg (by simp), attrsR, if_neg h1]
          rfl
theorem tail_suffix (l : List Tk) : ∃ p, l = p ++ l.tail := by
  cases l with
  | nil => exact ⟨[], rfl⟩
  | cons t l => exact ⟨[t], rfl⟩
theorem rest_suffix_box (e : Int) (l : List Tk) (w : Bool) : ∃ p, l = p ++ (boxR e l w).2.2.1 :=
  suf_trans (rest_suffix_count 1 MX l w) (suf_trans (rest_suffix_count _ _ _ _) (rest_suffix_take e _ _))
theorem rest_suffix_text (l : List Tk) : ∃ p, l = p ++ (textR l).2.1 :=
  suf_trans (rest_suffix_take 40 l false) (suf_trans (rest_suffix_count _ _ _ _) (suf_trans (rest_suffix_count _ _ _ _) (suf_trans (rest_suffix_count _ _ _ _) (suf_trans (rest_suffix_nums _) (rest_suffix_take 41 _ _)))))
theorem rest_suffix_float (l : List Tk) : ∃ p, l = p ++ (floatR l false).2.1 :=
  suf_trans (rest_suffix_take 60 l false) (suf_trans (rest_suffix_take _ _ _) (rest_suffix_box 62 _ _))
theorem rest_suffix : ∀ (f : Nat) (l : List Tk) (w : Bool), ∃ p, l = p ++ (nodesT f l w).2.1
  | f, l, true => ⟨[], rfl⟩
  | 0, l, false => ⟨[], rfl⟩
  | f + 1, l, false => by
    rw [nodesT_false]
    rcases sign_cases l with q | ⟨q1, q2⟩ | ⟨q1, q2, q3⟩ | ⟨q1, q2, q3, q4⟩ | ⟨q1, q2, q3, q4⟩
    · rw [nodesR_block q]
      exact suf_trans (tail_suffix l) (suf_trans (rest_suffix_attrs _ _ _ _ _ (Nat.le_refl _)) (suf_trans (rest_suffix f _ _) (suf_trans (rest_suffix_take 93 _ _) (rest_suffix f _ _))))
    · rw [nodesR_text q1 q2]
      exact suf_trans (rest_suffix_text l) (rest_suffix f _ _)
    · rw [nodesR_box q1 q2 q3]
      exact suf_trans (tail_suffix l) (suf_trans (rest_suffix_box 125 _ _) (rest_suffix f _ _))
    · rw [nodesR_float q1 q2 q3 q4]
      exact suf_trans (rest_suffix_float l) (rest_suffix f _ _)
    · rw [nodesR_none q1 q2 q3 q4]
      exact ⟨[], rfl⟩
/-- a script that may not be: nothing, and where -/
theorem readR_bad {s : List UInt8} (h : (readR s).2.2 ≠ 0) : (readR s).1 = [] ∧ (readR s).2.2 = 1 ∧ 0 ≤ (readR s).2.1 ∧ (readR s).2.1 ≤ s.length := by
  unfold readR at h ⊢
  cases hl : ofI s false 0 with
  | bad p =>
    have := ofI_bad_lt s _ 0 false (Nat.le_refl _) p hl
    exact ⟨rfl, rfl, by simp only; omega, by simp only; omega⟩
  | ok l =>
    rw [hl] at h
    simp only at h ⊢
    have hat := ofI_at s _ 0 false (Nat.le_refl _) l hl
    obtain ⟨p, hp⟩ := rest_suffix l.length l false
    rw [nodesT_false] at hp
    cases hn : (nodesR l.length l).2.1 with
    | cons t r =>
      rw [hn] at hp
      have := hat t (by rw [hp]; simp)
      simp only
      exact ⟨trivial, trivial, by omega, by omega⟩
    | nil =>
      rw [hn] at h
      simp only at h ⊢
      split
      · simp only
        exact ⟨trivial, trivial, by omega, by omega⟩
      · rename_i hw
        rw [if_neg hw] at h
        exact absurd rfl h
theorem readR_ok {s : List UInt8} (h : (readR s).2.2 = 0) : (readR s).2.1 = 0 ∧ ∃ l, ofI s false 0 = .ok l ∧ (nodesR l.length l).2 = ([], false) ∧ (readR s).1 = toldL (nodesR l.length l).1 := by
  unfold readR at h ⊢
  cases hl : ofI s false 0 with
  | bad p => rw [hl] at h; simp at h
  | ok l =>
    rw [hl] at h
    simp only at h ⊢
    cases hn : (nodesR l.length l).2.1 with
    | cons t r => rw [hn] at h; simp at h
    | nil =>
      rw [hn] at h
      simp only at h ⊢
      cases hw : (nodesR l.length l).2.2 with
      | true => rw [hw] at h; simp at h
      | false => exact ⟨rfl, l, rfl, Prod.ext hn hw, rfl⟩
end Go.Vc
namespace Go.Vc
open Go.Proofs
section
variable {P : Program} {n : Nat} {st : St} {Q : St → Prop} {k : List It}
end
/-- arguments of which more is known -/
theorem Contract.args {P : Program} {f : FuncId} {args args' : List V} {σ : Store} {Post : V → Store → Prop} (hw : WkL σ σ args args') (h : Contract P f args' σ Post) : Contract P f args σ Post :=
  ⟨h.1, fun μ w vals hs hr => h.2 μ w vals hs (WkL.all hs hw hr)⟩
end Go.Vc
namespace Go.Vc
open Go.Proofs
set_option maxRecDepth 100000 in
theorem equal_c (a b : List Int) (ha : a.length ≤ 200000000000000) : PFun Tryd.prog 45 [encI a, encI b] (.bool (decide (a = b))) := fun σ => by
  refine Contract.of_runs Tryd.func45 e45 k45 (by simp [c45]) ?_
  refine Runs.mix 14 ?_
  (refine Runs.of_step Orc.nothing 300 ?_; simp -implicitDefEqProofs only [BB, effR_some, effD_some, Int.reduceEq, Int.reduceNe, Int.reduceLT, Int.reduceLE, Int.reduceGT, Int.reduceGE, Nat.reduceEqDiff, Nat.reduceAdd, Nat.reduceMul, Nat.reduceLeDiff, Nat.reduceSub, Nat.reduceLT, Nat.reduceBEq, ↓reduceIte, reduceCtorEq, ← decide_not, okind, vpre, vpure, intBin, intPre, strBin, strPre, popTo, argSlots, fldV, fldAV, subCells, idxVV, idxAAV, idxSV, sliceV, sliceSV, boundV, szIs, storeOp, storeS, setRowV, eff, extV, buildV, splice, eqSV, fitsL, eqCells, eqCell, minmaxV, capV, binBV, nilCheckV, bytesV, V.cells, V.stays, Orc.nothing, c45, lenV_encI])
  refine And.intro (fun h => ?_) (fun h => ?_)
  · refine RetV.same ?_
    rw [V.bool.injEq]; symm
    rw [decide_eq_false_iff_not]
    rintro rfl
    simp at h
  · have hl : a.length = b.length := by
      have : (a.length : Int) = b.length := by simpa using h
      omega
    refine Runs.loop (fun m st => ∃ i : Nat, i ≤ a.length ∧ m = a.length - i ∧ a.take i = b.take i ∧ st.σ = σ ∧ st.s 0 = encI a ∧ st.s 1 = encI b ∧ st.s 12 = vI a.length ∧ st.s 13 = vI i) a.length ?_ ?_
    · exact ⟨0, by omega, by omega, rfl, rfl, rfl, rfl, rfl, rfl⟩
    · rintro m ⟨s, σ'⟩ ⟨i, hi, rfl, ht, hσ, h0, h1, h12, h13⟩
      simp only at hσ h0 h1 h12 h13
      subst hσ
      refine Runs.mix 14 ?_
      (refine Runs.of_step Orc.nothing 300 ?_; simp -implicitDefEqProofs only [BB, effR_some, effD_some, Int.reduceEq, Int.reduceNe, Int.reduceLT, Int.reduceLE, Int.reduceGT, Int.reduceGE, Nat.reduceEqDiff, Nat.reduceAdd, Nat.reduceMul, Nat.reduceLeDiff, Nat.reduceSub, Nat.reduceLT, Nat.reduceBEq, ↓reduceIte, reduceCtorEq, ← decide_not, okind, vpre, vpure, intBin, intPre, strBin, strPre, popTo, argSlots, fldV, fldAV, subCells, idxVV, idxAAV, idxSV, sliceV, sliceSV, boundV, szIs, storeOp, storeS, setRowV, eff, extV, buildV, splice, eqSV, fitsL, eqCells, eqCell, minmaxV, capV, binBV, nilCheckV, bytesV, V.cells, V.stays, Orc.nothing, h0, h1, h12, h13])
      refine And.intro (fun hlt => ?_) (fun hge => ?_)
      · have hlt' : i < a.length := by omega
        have hlt2 : i < b.length := by omega
        simp -implicitDefEqProofs only [BB, effR_some, effD_some, Int.reduceEq, Int.reduceNe, Int.reduceLT, Int.reduceLE, Int.reduceGT, Int.reduceGE, Nat.reduceEqDiff, Nat.reduceAdd, Nat.reduceMul, Nat.reduceLeDiff, Nat.reduceSub, Nat.reduceLT, Nat.reduceBEq, ↓reduceIte, reduceCtorEq, ← decide_not, okind, vpre, vpure, intBin, intPre, strBin, strPre, popTo, argSlots, fldV, fldAV, subCells, idxVV, idxAAV, idxSV, sliceV, sliceSV, boundV, szIs, storeOp, storeS, setRowV, eff, extV, buildV, splice, eqSV, fitsL, eqCells, eqCell, minmaxV, capV, binBV, nilCheckV, bytesV, V.cells, V.stays, idxAV_encI hlt', idxAV_encI hlt2, h0, h1, h12, h13]
        refine And.intro (fun hd => ?_) (fun hd => ?_)
        · refine RetV.same ?_
          rw [V.bool.injEq]; symm
          rw [decide_eq_false_iff_not]
          rintro rfl
          exact hd rfl
        · refine ⟨inR_i64 (by omega) (by omega), _, ?_, i + 1, by omega, rfl, ?_, by simp⟩
          · omega
          · rw [List.take_succ_eq_append_getElem hlt', List.take_succ_eq_append_getElem hlt2, ht]
            have : a[i] = b[i] := by simpa using hd
            rw [this]
      · have hie : i = a.length := by omega
        refine RetV.same ?_
        rw [V.bool.injEq]; symm
        rw [decide_eq_true_eq]
        rw [hie, List.take_length] at ht
        rw [ht, hl, List.take_length]
set_option maxRecDepth 100000 in
theorem one9_c (a b : Nd) (ha : a.words.length ≤ 200000000000000) : PFun Tryd.prog 44 [encN a, encN b] (.bool (decide (a = b))) := fun σ => by
  refine Contract.of_runs Tryd.func44 e44 k44 (by simp [c44]) ?_
  refine Runs.mix 6 ?_
  (refine Runs.of_step Orc.nothing 300 ?_; simp -implicitDefEqProofs only [BB, Int.reduceEq, Int.reduceNe, Int.reduceLT, Int.reduceLE, Int.reduceGT, Int.reduceGE, Nat.reduceEqDiff, Nat.reduceAdd, Nat.reduceMul, Nat.reduceLeDiff, Nat.reduceSub, Nat.reduceLT, Nat.reduceBEq, ↓reduceIte, reduceCtorEq, ← decide_not, okind, vpre, vpure, intBin, intPre, strBin, strPre, popTo, argSlots, fldV, fldAV, subCells, idxVV, idxAAV, idxSV, sliceV, sliceSV, boundV, szIs, storeOp, storeS, setRowV, eff, extV, buildV, splice, eqSV, fitsL, eqCells, eqCell, minmaxV, capV, binBV, nilCheckV, bytesV, V.cells, V.stays, Orc.nothing, c44, encN, Nd.cells])
  refine effR_new fun id2 σ1 s1 a2 f2 => ?_
  simp -implicitDefEqProofs only [BB, Int.reduceEq, Int.reduceNe, Int.reduceLT, Int.reduceLE, Int.reduceGT, Int.reduceGE, Nat.reduceEqDiff, Nat.reduceAdd, Nat.reduceMul, Nat.reduceLeDiff, Nat.reduceSub, Nat.reduceLT, Nat.reduceBEq, ↓reduceIte, reduceCtorEq, ← decide_not, okind, vpre, vpure, intBin, intPre, strBin, strPre, popTo, argSlots, fldV, fldAV, subCells, idxVV, idxAAV, idxSV, sliceV, sliceSV, boundV, szIs, storeOp, storeS, setRowV, eff, extV, buildV, splice, eqSV, fitsL, eqCells, eqCell, minmaxV, capV, binBV, nilCheckV, bytesV, V.cells, V.stays, a2]
  refine effR_new fun id3 σ2 s2 a3 f3 => ?_
  have n23 := ne_new a2 f3
  have a2 := s2 _ _ a2
  have hs := s1.trans s2
  simp -implicitDefEqProofs only [BB, Int.reduceEq, Int.reduceNe, Int.reduceLT, Int.reduceLE, Int.reduceGT, Int.reduceGE, Nat.reduceEqDiff, Nat.reduceAdd, Nat.reduceMul, Nat.reduceLeDiff, Nat.reduceSub, Nat.reduceLT, Nat.reduceBEq, ↓reduceIte, reduceCtorEq, ← decide_not, okind, vpre, vpure, intBin, intPre, strBin, strPre, popTo, argSlots, fldV, fldAV, subCells, idxVV, idxAAV, idxSV, sliceV, sliceSV, boundV, szIs, storeOp, storeS, setRowV, eff, extV, buildV, splice, eqSV, fitsL, eqCells, eqCell, minmaxV, capV, binBV, nilCheckV, bytesV, V.cells, V.stays, a2, a3]
  refine Runs.pcall rfl rfl rfl (equal_c a.words b.words ha _) ?_
  by_cases hw : a.words = b.words
  · have hwt : decide (a.words = b.words) = true := decide_eq_true hw
    (refine Runs.of_step Orc.nothing 300 ?_; simp -implicitDefEqProofs only [BB, Int.reduceEq, Int.reduceNe, Int.reduceLT, Int.reduceLE, Int.reduceGT, Int.reduceGE, Nat.reduceEqDiff, Nat.reduceAdd, Nat.reduceMul, Nat.reduceLeDiff, Nat.reduceSub, Nat.reduceLT, Nat.reduceBEq, ↓reduceIte, reduceCtorEq, ← decide_not, okind, vpre, vpure, intBin, intPre, strBin, strPre, popTo, argSlots, fldV, fldAV, subCells, idxVV, idxAAV, idxSV, sliceV, sliceSV, boundV, szIs, storeOp, storeS, setRowV, eff, extV, buildV, splice, eqSV, fitsL, eqCells, eqCell, minmaxV, capV, binBV, nilCheckV, bytesV, V.cells, V.stays, Orc.nothing, hwt, a2, a3, styEq])
    refine And.intro (fun c1 => And.intro (fun c2 => And.intro (fun c3 => And.intro (fun c4 => And.intro (fun c5 => And.intro (fun c6 => And.intro (fun c7 => ?_) (fun c7 => ?_)) (fun c6 => ?_)) (fun c5 => ?_)) (fun c4 => ?_)) (fun c3 => ?_)) (fun c2 => ?_)) (fun c1 => ?_)
    all_goals (refine RetV.pure hs ?_; rw [V.bool.injEq])
    · rw [Bool.eq_iff_iff, decide_eq_true_eq, decide_eq_true_eq]
      cases a; cases b; simp_all
    all_goals (symm; rw [decide_eq_false_iff_not]; rintro rfl; simp at *)
  · have hwt : decide (a.words = b.words) = false := decide_eq_false hw
    (refine Runs.of_step Orc.nothing 300 ?_; simp -implicitDefEqProofs only [BB, Int.reduceEq, Int.reduceNe, Int.reduceLT, Int.reduceLE, Int.reduceGT, Int.reduceGE, Nat.reduceEqDiff, Nat.reduceAdd, Nat.reduceMul, Nat.reduceLeDiff, Nat.reduceSub, Nat.reduceLT, Nat.reduceBEq, ↓reduceIte, reduceCtorEq, ← decide_not, okind, vpre, vpure, intBin, intPre, strBin, strPre, popTo, argSlots, fldV, fldAV, subCells, idxVV, idxAAV, idxSV, sliceV, sliceSV, boundV, szIs, storeOp, storeS, setRowV, eff, extV, buildV, splice, eqSV, fitsL, eqCells, eqCell, minmaxV, capV, binBV, nilCheckV, bytesV, V.cells, V.stays, Orc.nothing, hwt, a2, a3, styEq])
    refine RetV.pure hs ?_
    rw [V.bool.injEq]; symm
    rw [decide_eq_false_iff_not]; rintro rfl; exact hw rfl
set_option maxRecDepth 100000 in
theorem eqf_c (a b : List Nd) (ha : Fine a) (hb : Fine b) : PFun Tryd.prog 43 [encNs a, encNs b, .fn 44 []] (.bool (decide (a = b))) := fun σ => by
  have hal := ha.1
  refine Contract.of_runs Tryd.func43 e43 k43 (by simp [c43]) ?_
  refine Runs.mix 18 ?_
  (refine Runs.of_step Orc.nothing 300 ?_; simp -implicitDefEqProofs only [BB, Int.reduceEq, Int.reduceNe, Int.reduceLT, Int.reduceLE, Int.reduceGT, Int.reduceGE, Nat.reduceEqDiff, Nat.reduceAdd, Nat.reduceMul, Nat.reduceLeDiff, Nat.reduceSub, Nat.reduceLT, Nat.reduceBEq, ↓reduceIte, reduceCtorEq, ← decide_not, okind, vpre, vpure, intBin, intPre, strBin, strPre, popTo, argSlots, fldV, fldAV, subCells, idxVV, idxAAV, idxSV, sliceV, sliceSV, boundV, szIs, storeOp, storeS, setRowV, eff, extV, buildV, splice, eqSV, fitsL, eqCells, eqCell, minmaxV, capV, binBV, nilCheckV, bytesV, V.cells, V.stays, Orc.nothing, c43, lenV_encNs])
  refine And.intro (fun hl => ?_) (fun hl => ?_)
  · refine RetV.same ?_
    rw [V.bool.injEq]; symm
    rw [decide_eq_false_iff_not]
    rintro rfl
    simp at hl
  · have hl : a.length = b.length := by
      have : (a.length : Int) = b.length := by simpa using hl
      omega
    refine Runs.loop (fun m st => ∃ i : Nat, i ≤ a.length ∧ m = a.length - i ∧ a.take i = b.take i ∧ SubStore σ st.σ ∧ st.s 1 = encNs b ∧ st.s 2 = .fn 44 [] ∧ st.s 15 = encNs a ∧ st.s 16 = vI a.length ∧ st.s 17 = vI i) a.length ?_ ?_
    · exact ⟨0, by omega, by omega, rfl, SubStore.refl _, rfl, rfl, rfl, rfl, rfl⟩
    · rintro m ⟨s, σ'⟩ ⟨i, hi, rfl, ht, hsub, h1, h2, h15, h16, h17⟩
      simp only at hsub h1 h2 h15 h16 h17
      refine Runs.mix 18 ?_
      (refine Runs.of_step Orc.nothing 300 ?_; simp -implicitDefEqProofs only [BB, Int.reduceEq, Int.reduceNe, Int.reduceLT, Int.reduceLE, Int.reduceGT, Int.reduceGE, Nat.reduceEqDiff, Nat.reduceAdd, Nat.reduceMul, Nat.reduceLeDiff, Nat.reduceSub, Nat.reduceLT, Nat.reduceBEq, ↓reduceIte, reduceCtorEq, ← decide_not, okind, vpre, vpure, intBin, intPre, strBin, strPre, popTo, argSlots, fldV, fldAV, subCells, idxVV, idxAAV, idxSV, sliceV, sliceSV, boundV, szIs, storeOp, storeS, setRowV, eff, extV, buildV, splice, eqSV, fitsL, eqCells, eqCell, minmaxV, capV, binBV, nilCheckV, bytesV, V.cells, V.stays, Orc.nothing, h1, h2, h15, h16, h17])
      refine And.intro (fun hlt => ?_) (fun hge => ?_)
      · have hlt' : i < a.length := by omega
        have hlt2 : i < b.length := by omega
        have hx := ha.2 _ (List.getElem_mem hlt')
        have hy := hb.2 _ (List.getElem_mem hlt2)
        have hta := List.take_succ_eq_append_getElem hlt'
        have htb := List.take_succ_eq_append_getElem hlt2
        have hxe : a[i]? = some a[i] := by simp [hlt']
        have hye : b[i]? = some b[i] := by simp [hlt2]
        generalize hxg : a[i] = x at *
        generalize hyg : b[i] = y at *
        simp -implicitDefEqProofs only [BB, Int.reduceEq, Int.reduceNe, Int.reduceLT, Int.reduceLE, Int.reduceGT, Int.reduceGE, Nat.reduceEqDiff, Nat.reduceAdd, Nat.reduceMul, Nat.reduceLeDiff, Nat.reduceSub, Nat.reduceLT, Nat.reduceBEq, ↓reduceIte, reduceCtorEq, ← decide_not, okind, vpre, vpure, intBin, intPre, strBin, strPre, popTo, argSlots, fldV, fldAV, subCells, idxVV, idxAAV, idxSV, sliceV, sliceSV, boundV, szIs, storeOp, storeS, setRowV, eff, extV, buildV, splice, eqSV, fitsL, eqCells, eqCell, minmaxV, capV, binBV, nilCheckV, bytesV, V.cells, V.stays, idxAV_encNs hlt', idxAV_encNs hlt2, hxg, hyg, Nd.cells, h1, h2, h15, h16, h17]
        refine effR_new fun id1 σ1 s1 a1 f1 => ?_
        simp -implicitDefEqProofs only [BB, Int.reduceEq, Int.reduceNe, Int.reduceLT, Int.reduceLE, Int.reduceGT, Int.reduceGE, Nat.reduceEqDiff, Nat.reduceAdd, Nat.reduceMul, Nat.reduceLeDiff, Nat.reduceSub, Nat.reduceLT, Nat.reduceBEq, ↓reduceIte, reduceCtorEq, ← decide_not, okind, vpre, vpure, intBin, intPre, strBin, strPre, popTo, argSlots, fldV, fldAV, subCells, idxVV, idxAAV, idxSV, sliceV, sliceSV, boundV, szIs, storeOp, storeS, setRowV, eff, extV, buildV, splice, eqSV, fitsL, eqCells, eqCell, minmaxV, capV, binBV, nilCheckV, bytesV, V.cells, V.stays, a1, idxAV_encNs hlt', idxAV_encNs hlt2, hxg, hyg, Nd.cells, encI_cells, encI_stays, h1, h2, h15, h16, h17]
        refine effR_new fun id2 σ2 s2 a2 f2 => ?_
        have n12 : id1 ≠ id2 := by rintro rfl; rw [upd_same] at f2; cases f2
        have a1' := s2 id1 _ upd_same
        have hs2 := ((hsub.trans s1).updK (hsub.none f1)).trans s2
        have g2 := ((hsub.trans s1).updK (hsub.none f1)).none f2
        simp -implicitDefEqProofs only [BB, Int.reduceEq, Int.reduceNe, Int.reduceLT, Int.reduceLE, Int.reduceGT, Int.reduceGE, Nat.reduceEqDiff, Nat.reduceAdd, Nat.reduceMul, Nat.reduceLeDiff, Nat.reduceSub, Nat.reduceLT, Nat.reduceBEq, ↓reduceIte, reduceCtorEq, ← decide_not, okind, vpre, vpure, intBin, intPre, strBin, strPre, popTo, argSlots, fldV, fldAV, subCells, idxVV, idxAAV, idxSV, sliceV, sliceSV, boundV, szIs, storeOp, storeS, setRowV, eff, extV, buildV, splice, eqSV, fitsL, eqCells, eqCell, minmaxV, capV, binBV, nilCheckV, bytesV, V.cells, V.stays, a1', a2, upd_ne n12, encI_cells, encI_stays, h1, h2, h15, h16, h17]
        refine Runs.pcall rfl rfl rfl (one9_c x y hx _) ?_
        by_cases hd : x = y
        · have hdt : decide (x = y) = true := decide_eq_true hd
          (refine Runs.of_step Orc.nothing 300 ?_; simp -implicitDefEqProofs only [BB, Int.reduceEq, Int.reduceNe, Int.reduceLT, Int.reduceLE, Int.reduceGT, Int.reduceGE, Nat.reduceEqDiff, Nat.reduceAdd, Nat.reduceMul, Nat.reduceLeDiff, Nat.reduceSub, Nat.reduceLT, Nat.reduceBEq, ↓reduceIte, reduceCtorEq, ← decide_not, okind, vpre, vpure, intBin, intPre, strBin, strPre, popTo, argSlots, fldV, fldAV, subCells, idxVV, idxAAV, idxSV, sliceV, sliceSV, boundV, szIs, storeOp, storeS, setRowV, eff, extV, buildV, splice, eqSV, fitsL, eqCells, eqCell, minmaxV, capV, binBV, nilCheckV, bytesV, V.cells, V.stays, Orc.nothing, hdt, h1, h2, h15, h16, h17])
          refine ⟨inR_i64 (by omega) (by omega), _, ?_, i + 1, by omega, rfl, ?_, hs2.updK g2, by simp⟩
          · omega
          · rw [hta, htb, ht, hd]
        · have hdt : decide (x = y) = false := decide_eq_false hd
          (refine Runs.of_step Orc.nothing 300 ?_; simp -implicitDefEqProofs only [BB, Int.reduceEq, Int.reduceNe, Int.reduceLT, Int.reduceLE, Int.reduceGT, Int.reduceGE, Nat.reduceEqDiff, Nat.reduceAdd, Nat.reduceMul, Nat.reduceLeDiff, Nat.reduceSub, Nat.reduceLT, Nat.reduceBEq, ↓reduceIte, reduceCtorEq, ← decide_not, okind, vpre, vpure, intBin, intPre, strBin, strPre, popTo, argSlots, fldV, fldAV, subCells, idxVV, idxAAV, idxSV, sliceV, sliceSV, boundV, szIs, storeOp, storeS, setRowV, eff, extV, buildV, splice, eqSV, fitsL, eqCells, eqCell, minmaxV, capV, binBV, nilCheckV, bytesV, V.cells, V.stays, Orc.nothing, hdt, h1, h2, h15, h16, h17])
          refine RetV.pure (hs2.updK g2) ?_
          rw [V.bool.injEq]; symm
          rw [decide_eq_false_iff_not]
          rintro rfl
          rw [hxe] at hye
          simp at hye
          exact hd hye
      · have hie : i = a.length := by omega
        refine RetV.pure hsub ?_
        rw [V.bool.injEq]; symm
        rw [decide_eq_true_eq]
        rw [hie, List.take_length] at ht
        rw [ht, hl, List.take_length]
set_option maxRecDepth 100000 in
theorem same9_c (a b : List Nd) (ha : Fine a) (hb : Fine b) : PFun Tryd.prog 21 [encNs a, encNs b] (.bool (decide (a = b))) := fun σ => by
  refine Contract.of_runs Tryd.func21 e21 k21 (by simp [c21]) ?_
  refine Runs.mix 5 ?_
  (refine Runs.of_step Orc.nothing 300 ?_; simp -implicitDefEqProofs only [BB, effR_some, effD_some, Int.reduceEq, Int.reduceNe, Int.reduceLT, Int.reduceLE, Int.reduceGT, Int.reduceGE, Nat.reduceEqDiff, Nat.reduceAdd, Nat.reduceMul, Nat.reduceLeDiff, Nat.reduceSub, Nat.reduceLT, Nat.reduceBEq, ↓reduceIte, reduceCtorEq, ← decide_not, okind, vpre, vpure, intBin, intPre, strBin, strPre, popTo, argSlots, fldV, fldAV, subCells, idxVV, idxAAV, idxSV, sliceV, sliceSV, boundV, szIs, storeOp, storeS, setRowV, eff, extV, buildV, splice, eqSV, fitsL, eqCells, eqCell, minmaxV, capV, binBV, nilCheckV, bytesV, V.cells, V.stays, Orc.nothing, c21])
  refine Runs.pcall rfl rfl rfl (eqf_c a b ha hb _) ?_
  (refine Runs.of_step Orc.nothing 300 ?_; simp -implicitDefEqProofs only [BB, effR_some, effD_some, Int.reduceEq, Int.reduceNe, Int.reduceLT, Int.reduceLE, Int.reduceGT, Int.reduceGE, Nat.reduceEqDiff, Nat.reduceAdd, Nat.reduceMul, Nat.reduceLeDiff, Nat.reduceSub, Nat.reduceLT, Nat.reduceBEq, ↓reduceIte, reduceCtorEq, ← decide_not, okind, vpre, vpure, intBin, intPre, strBin, strPre, popTo, argSlots, fldV, fldAV, subCells, idxVV, idxAAV, idxSV, sliceV, sliceSV, boundV, szIs, storeOp, storeS, setRowV, eff, extV, buildV, splice, eqSV, fitsL, eqCells, eqCell, minmaxV, capV, binBV, nilCheckV, bytesV, V.cells, V.stays, Orc.nothing])
  exact RetV.same rfl
end Go.Vc
namespace Go.Vc
theorem nums_len : ∀ (l : List Tk), (numsR l).1.length + (numsR l).2.length = l.length
  | [] => rfl
  | t :: r => by
    have := nums_len r
    rw [numsR]
    split
    · simp only [List.length_cons]; omega
    · simp
theorem text_words {l : List Tk} (h : signB 40 l = true) : ((textR l).1.drop 2).length ≤ l.length := by
  unfold textR
  simp only
  obtain ⟨e, hl⟩ := takeR_yes h
  rw [e]
  simp only
  have h1 := count_len 1 MX l.tail false
  generalize countR 1 MX l.tail false = c1 at *
  have h2 := count_len 0 MX c1.2.1 c1.2.2
  generalize countR 0 MX c1.2.1 c1.2.2 = c2 at *
  have h3 := count_len 1 MX c2.2.1 c2.2.2
  generalize countR 1 MX c2.2.1 c2.2.2 = c3 at *
  have h4 := nums_len c3.2.1
  simp only [List.cons_append, List.nil_append, List.drop_succ_cons, List.drop_zero, List.length_cons]
  omega
theorem told_words : ∀ (f : Nat) (l : List Tk) (w : Bool), ∀ x ∈ toldL (nodesT f l w).1, x.words.length ≤ l.length
  | f, l, true => by intro x hx; cases hx
  | 0, l, false => by intro x hx; cases hx
  | f + 1, l, false => by
    intro x hx
    rw [nodesT_false] at hx
    rcases sign_cases l with q | ⟨q1, q2⟩ | ⟨q1, q2, q3⟩ | ⟨q1, q2, q3, q4⟩ | ⟨q1, q2, q3, q4⟩
    · rw [nodesR_block q] at hx
      have h0 := (takeR_yes q).2
      have h1 := (attrsT_len (fun _ => true) plainS l.tail false).2
      generalize attrsT (fun _ => true) plainS l.tail false = a at *
      have h2 := nodesT_len f a.2.1 a.2.2
      have i1 := told_words f a.2.1 a.2.2
      generalize nodesT f a.2.1 a.2.2 = n at *
      have h3 := takeR_len 93 n.2.1 n.2.2
      generalize takeR 93 n.2.1 n.2.2 = c at *
      have i2 := told_words f c.1 c.2
      rw [toldL, toldS, List.cons_append, List.mem_cons, List.mem_append] at hx
      rcases hx with rfl | hx | hx
      · simp [ndS]
      · have := i1 x hx; omega
      · have := i2 x hx; omega
    · rw [nodesR_text q1 q2] at hx
      have h0 := textR_len q2
      have h1 := text_words q2
      generalize textR l = a at *
      have i2 := told_words f a.2.1 a.2.2
      rw [toldL, toldS, List.cons_append, List.mem_cons, List.nil_append] at hx
      rcases hx with rfl | hx
      · exact h1
      · have := i2 x hx; omega
    · rw [nodesR_box q1 q2 q3] at hx
      have h0 := (takeR_yes q3).2
      have h1 := boxR_len 125 l.tail false
      generalize boxR 125 l.tail false = a at *
      have i2 := told_words f a.2.2.1 a.2.2.2
      rw [toldL, toldS, List.cons_append, List.mem_cons, List.nil_append] at hx
      rcases hx with rfl | hx
      · simp [ndS]
      · have := i2 x hx; omega
    · rw [nodesR_float q1 q2 q3 q4] at hx
      have h0 := floatR_len q4
      have hf : ∃ w h d, (floatR l false).1 = .float w h d := ⟨_, _, _, rfl⟩
      obtain ⟨w, h, d, hf⟩ := hf
      rw [hf] at hx
      generalize floatR l false = a at *
      have i2 := told_words f a.2.1 a.2.2
      rw [toldL, toldS, List.cons_append, List.mem_cons, List.nil_append] at hx
      rcases hx with rfl | hx
      · simp [ndS]
      · have := i2 x hx; omega
    · rw [nodesR_none q1 q2 q3 q4] at hx
      cases hx
theorem readR_fine {s : List UInt8} {n : Nat} (hs : s.length ≤ n) : (readR s).1.length ≤ n ∧ ∀ x ∈ (readR s).1, x.words.length ≤ n := by
  by_cases h : (readR s).2.2 = 0
  · obtain ⟨_, l, hl, hn, ht⟩ := readR_ok h
    have hll := ofI_len hl
    have hw := (nodesR_wf l.length l).2
    have hx := told_words l.length l false
    rw [nodesT_false] at hx
    rw [ht]
    exact ⟨by omega, fun x hm => by have := hx x hm; omega⟩
  · rw [(readR_bad h).1]
    exact ⟨by simp, by simp⟩
end Go.Vc
namespace Go.Vc
open Go.Proofs
def readB (s : List UInt8) (want : List Nd) : Bool := decide ((readR s).2.2 = 0) && (decide ((readR s).2.1 = 0) && decide ((readR s).1 = want))
def wrongB (s : List UInt8) (p : Int) : Bool := decide ((readR s).1.length = 0) && (decide ((readR s).2.1 = p) && decide ((readR s).2.2 = 1))
theorem isr_c (s : List UInt8) (want : List Nd) (hs : s.length ≤ 10000) (hw : Fine want) : PFun Tryd.prog 31 [.str s, encNs want] (.bool (readB s want)) := fun σ => by
  refine Contract.of_runs Tryd.func31 e31 k31 (by simp [c31]) ?_
  refine Runs.mix 9 ?_
  (refine Runs.of_step Orc.nothing 300 ?_; simp -implicitDefEqProofs only [BB, effR_some, effD_some, Int.reduceEq, Int.reduceNe, Int.reduceLT, Int.reduceLE, Int.reduceGT, Int.reduceGE, Nat.reduceEqDiff, Nat.reduceAdd, Nat.reduceMul, Nat.reduceLeDiff, Nat.reduceSub, Nat.reduceLT, Nat.reduceBEq, ↓reduceIte, reduceCtorEq, ← decide_not, okind, vpre, vpure, intBin, intPre, strBin, strPre, popTo, argSlots, fldV, fldAV, subCells, idxVV, idxAAV, idxSV, sliceV, sliceSV, boundV, szIs, storeOp, storeS, setRowV, eff, extV, buildV, splice, eqSV, fitsL, eqCells, eqCell, minmaxV, capV, binBV, nilCheckV, bytesV, V.cells, V.stays, Orc.nothing, c31])
  refine Runs.pcall rfl rfl rfl (readOf_c s (by omega) _) ?_
  have hf := readR_fine hs
  have his := readIs_c s (by omega) σ
  unfold readB
  generalize readR s = r at *
  obtain ⟨l, a, e⟩ := r
  simp only [readV] at *
  by_cases he : e = 0
  · subst he
    by_cases ha : a = 0
    · subst ha
      (refine Runs.of_step Orc.nothing 300 ?_; simp -implicitDefEqProofs only [BB, effR_some, effD_some, Int.reduceEq, Int.reduceNe, Int.reduceLT, Int.reduceLE, Int.reduceGT, Int.reduceGE, Nat.reduceEqDiff, Nat.reduceAdd, Nat.reduceMul, Nat.reduceLeDiff, Nat.reduceSub, Nat.reduceLT, Nat.reduceBEq, ↓reduceIte, reduceCtorEq, ← decide_not, okind, vpre, vpure, intBin, intPre, strBin, strPre, popTo, argSlots, fldV, fldAV, subCells, idxVV, idxAAV, idxSV, sliceV, sliceSV, boundV, szIs, storeOp, storeS, setRowV, eff, extV, buildV, splice, eqSV, fitsL, eqCells, eqCell, minmaxV, capV, binBV, nilCheckV, bytesV, V.cells, V.stays, Orc.nothing])
      refine Runs.pcall rfl rfl rfl (same5_c l want ⟨hf.1, fun x hx => by have := hf.2 x hx; omega⟩ hw _) ?_
      by_cases hl : l = want
      · rw [decide_eq_true hl]
        (refine Runs.of_step Orc.nothing 300 ?_; simp -implicitDefEqProofs only [BB, effR_some, effD_some, Int.reduceEq, Int.reduceNe, Int.reduceLT, Int.reduceLE, Int.reduceGT, Int.reduceGE, Nat.reduceEqDiff, Nat.reduceAdd, Nat.reduceMul, Nat.reduceLeDiff, Nat.reduceSub, Nat.reduceLT, Nat.reduceBEq, ↓reduceIte, reduceCtorEq, ← decide_not, okind, vpre, vpure, intBin, intPre, strBin, strPre, popTo, argSlots, fldV, fldAV, subCells, idxVV, idxAAV, idxSV, sliceV, sliceSV, boundV, szIs, storeOp, storeS, setRowV, eff, extV, buildV, splice, eqSV, fitsL, eqCells, eqCell, minmaxV, capV, binBV, nilCheckV, bytesV, V.cells, V.stays, Orc.nothing])
        refine Runs.pcall rfl rfl rfl his ?_
        (refine Runs.of_step Orc.nothing 300 ?_; simp -implicitDefEqProofs only [BB, effR_some, effD_some, Int.reduceEq, Int.reduceNe, Int.reduceLT, Int.reduceLE, Int.reduceGT, Int.reduceGE, Nat.reduceEqDiff, Nat.reduceAdd, Nat.reduceMul, Nat.reduceLeDiff, Nat.reduceSub, Nat.reduceLT, Nat.reduceBEq, ↓reduceIte, reduceCtorEq, ← decide_not, okind, vpre, vpure, intBin, intPre, strBin, strPre, popTo, argSlots, fldV, fldAV, subCells, idxVV, idxAAV, idxSV, sliceV, sliceSV, boundV, szIs, storeOp, storeS, setRowV, eff, extV, buildV, splice, eqSV, fitsL, eqCells, eqCell, minmaxV, capV, binBV, nilCheckV, bytesV, V.cells, V.stays, Orc.nothing])
        exact RetV.same rfl
      · rw [decide_eq_false hl]
        (refine Runs.of_step Orc.nothing 300 ?_; simp -implicitDefEqProofs only [BB, effR_some, effD_some, Int.reduceEq, Int.reduceNe, Int.reduceLT, Int.reduceLE, Int.reduceGT, Int.reduceGE, Nat.reduceEqDiff, Nat.reduceAdd, Nat.reduceMul, Nat.reduceLeDiff, Nat.reduceSub, Nat.reduceLT, Nat.reduceBEq, ↓reduceIte, reduceCtorEq, ← decide_not, okind, vpre, vpure, intBin, intPre, strBin, strPre, popTo, argSlots, fldV, fldAV, subCells, idxVV, idxAAV, idxSV, sliceV, sliceSV, boundV, szIs, storeOp, storeS, setRowV, eff, extV, buildV, splice, eqSV, fitsL, eqCells, eqCell, minmaxV, capV, binBV, nilCheckV, bytesV, V.cells, V.stays, Orc.nothing])
        exact RetV.same rfl
    · have ha' : (a = 0) = False := by simpa using ha
      (refine Runs.of_step Orc.nothing 300 ?_; simp -implicitDefEqProofs only [BB, effR_some, effD_some, Int.reduceEq, Int.reduceNe, Int.reduceLT, Int.reduceLE, Int.reduceGT, Int.reduceGE, Nat.reduceEqDiff, Nat.reduceAdd, Nat.reduceMul, Nat.reduceLeDiff, Nat.reduceSub, Nat.reduceLT, Nat.reduceBEq, ↓reduceIte, reduceCtorEq, ← decide_not, okind, vpre, vpure, intBin, intPre, strBin, strPre, popTo, argSlots, fldV, fldAV, subCells, idxVV, idxAAV, idxSV, sliceV, sliceSV, boundV, szIs, storeOp, storeS, setRowV, eff, extV, buildV, splice, eqSV, fitsL, eqCells, eqCell, minmaxV, capV, binBV, nilCheckV, bytesV, V.cells, V.stays, Orc.nothing, ha'])
      exact RetV.same rfl
  · have he' : (e = 0) = False := by simpa using he
    (refine Runs.of_step Orc.nothing 300 ?_; simp -implicitDefEqProofs only [BB, effR_some, effD_some, Int.reduceEq, Int.reduceNe, Int.reduceLT, Int.reduceLE, Int.reduceGT, Int.reduceGE, Nat.reduceEqDiff, Nat.reduceAdd, Nat.reduceMul, Nat.reduceLeDiff, Nat.reduceSub, Nat.reduceLT, Nat.reduceBEq, ↓reduceIte, reduceCtorEq, ← decide_not, okind, vpre, vpure, intBin, intPre, strBin, strPre, popTo, argSlots, fldV, fldAV, subCells, idxVV, idxAAV, idxSV, sliceV, sliceSV, boundV, szIs, storeOp, storeS, setRowV, eff, extV, buildV, splice, eqSV, fitsL, eqCells, eqCell, minmaxV, capV, binBV, nilCheckV, bytesV, V.cells, V.stays, Orc.nothing, he'])
    exact RetV.same rfl
theorem wrongr_c (s : List UInt8) (p : Int) (hs : s.length ≤ 10000) : PFun Tryd.prog 33 [.str s, vI p] (.bool (wrongB s p)) := fun σ => by
  refine Contract.of_runs Tryd.func33 e33 k33 (by simp [c33]) ?_
  refine Runs.mix 9 ?_
  (refine Runs.of_step Orc.nothing 300 ?_; simp -implicitDefEqProofs only [BB, effR_some, effD_some, Int.reduceEq, Int.reduceNe, Int.reduceLT, Int.reduceLE, Int.reduceGT, Int.reduceGE, Nat.reduceEqDiff, Nat.reduceAdd, Nat.reduceMul, Nat.reduceLeDiff, Nat.reduceSub, Nat.reduceLT, Nat.reduceBEq, ↓reduceIte, reduceCtorEq, ← decide_not, okind, vpre, vpure, intBin, intPre, strBin, strPre, popTo, argSlots, fldV, fldAV, subCells, idxVV, idxAAV, idxSV, sliceV, sliceSV, boundV, szIs, storeOp, storeS, setRowV, eff, extV, buildV, splice, eqSV, fitsL, eqCells, eqCell, minmaxV, capV, binBV, nilCheckV, bytesV, V.cells, V.stays, Orc.nothing, c33])
  refine Runs.pcall rfl rfl rfl (readOf_c s (by omega) _) ?_
  have his := readIs_c s (by omega) σ
  unfold wrongB
  generalize readR s = r at *
  obtain ⟨l, a, e⟩ := r
  simp only [readV] at *
  have hln := lenV_encNs l
  by_cases h0 : l.length = 0
  · have h0' : ((l.length : Int) = 0) = True := by simp [h0]
    by_cases ha : a = p
    · subst ha
      by_cases he : e = 1
      · subst he
        (refine Runs.of_step Orc.nothing 300 ?_; simp -implicitDefEqProofs only [BB, effR_some, effD_some, Int.reduceEq, Int.reduceNe, Int.reduceLT, Int.reduceLE, Int.reduceGT, Int.reduceGE, Nat.reduceEqDiff, Nat.reduceAdd, Nat.reduceMul, Nat.reduceLeDiff, Nat.reduceSub, Nat.reduceLT, Nat.reduceBEq, ↓reduceIte, reduceCtorEq, ← decide_not, okind, vpre, vpure, intBin, intPre, strBin, strPre, popTo, argSlots, fldV, fldAV, subCells, idxVV, idxAAV, idxSV, sliceV, sliceSV, boundV, szIs, storeOp, storeS, setRowV, eff, extV, buildV, splice, eqSV, fitsL, eqCells, eqCell, minmaxV, capV, binBV, nilCheckV, bytesV, V.cells, V.stays, Orc.nothing, hln, h0'])
        refine Runs.pcall rfl rfl rfl his ?_
        (refine Runs.of_step Orc.nothing 300 ?_; simp -implicitDefEqProofs only [BB, effR_some, effD_some, Int.reduceEq, Int.reduceNe, Int.reduceLT, Int.reduceLE, Int.reduceGT, Int.reduceGE, Nat.reduceEqDiff, Nat.reduceAdd, Nat.reduceMul, Nat.reduceLeDiff, Nat.reduceSub, Nat.reduceLT, Nat.reduceBEq, ↓reduceIte, reduceCtorEq, ← decide_not, okind, vpre, vpure, intBin, intPre, strBin, strPre, popTo, argSlots, fldV, fldAV, subCells, idxVV, idxAAV, idxSV, sliceV, sliceSV, boundV, szIs, storeOp, storeS, setRowV, eff, extV, buildV, splice, eqSV, fitsL, eqCells, eqCell, minmaxV, capV, binBV, nilCheckV, bytesV, V.cells, V.stays, Orc.nothing])
        exact RetV.same (by simp [h0])
      · have he' : (e = 1) = False := by simpa using he
        (refine Runs.of_step Orc.nothing 300 ?_; simp -implicitDefEqProofs only [BB, effR_some, effD_some, Int.reduceEq, Int.reduceNe, Int.reduceLT, Int.reduceLE, Int.reduceGT, Int.reduceGE, Nat.reduceEqDiff, Nat.reduceAdd, Nat.reduceMul, Nat.reduceLeDiff, Nat.reduceSub, Nat.reduceLT, Nat.reduceBEq, ↓reduceIte, reduceCtorEq, ← decide_not, okind, vpre, vpure, intBin, intPre, strBin, strPre, popTo, argSlots, fldV, fldAV, subCells, idxVV, idxAAV, idxSV, sliceV, sliceSV, boundV, szIs, storeOp, storeS, setRowV, eff, extV, buildV, splice, eqSV, fitsL, eqCells, eqCell, minmaxV, capV, binBV, nilCheckV, bytesV, V.cells, V.stays, Orc.nothing, hln, h0', he'])
        exact RetV.same (by simp)
    · have ha' : (a = p) = False := by simpa using ha
      (refine Runs.of_step Orc.nothing 300 ?_; simp -implicitDefEqProofs only [BB, effR_some, effD_some, Int.reduceEq, Int.reduceNe, Int.reduceLT, Int.reduceLE, Int.reduceGT, Int.reduceGE, Nat.reduceEqDiff, Nat.reduceAdd, Nat.reduceMul, Nat.reduceLeDiff, Nat.reduceSub, Nat.reduceLT, Nat.reduceBEq, ↓reduceIte, reduceCtorEq, ← decide_not, okind, vpre, vpure, intBin, intPre, strBin, strPre, popTo, argSlots, fldV, fldAV, subCells, idxVV, idxAAV, idxSV, sliceV, sliceSV, boundV, szIs, storeOp, storeS, setRowV, eff, extV, buildV, splice, eqSV, fitsL, eqCells, eqCell, minmaxV, capV, binBV, nilCheckV, bytesV, V.cells, V.stays, Orc.nothing, hln, h0', ha'])
      exact RetV.same (by simp [ha])
  · have h0' : ((l.length : Int) = 0) = False := by simp; exact fun h => h0 (by simpa using h)
    (refine Runs.of_step Orc.nothing 300 ?_; simp -implicitDefEqProofs only [BB, effR_some, effD_some, Int.reduceEq, Int.reduceNe, Int.reduceLT, Int.reduceLE, Int.reduceGT, Int.reduceGE, Nat.reduceEqDiff, Nat.reduceAdd, Nat.reduceMul, Nat.reduceLeDiff, Nat.reduceSub, Nat.reduceLT, Nat.reduceBEq, ↓reduceIte, reduceCtorEq, ← decide_not, okind, vpre, vpure, intBin, intPre, strBin, strPre, popTo, argSlots, fldV, fldAV, subCells, idxVV, idxAAV, idxSV, sliceV, sliceSV, boundV, szIs, storeOp, storeS, setRowV, eff, extV, buildV, splice, eqSV, fitsL, eqCells, eqCell, minmaxV, capV, binBV, nilCheckV, bytesV, V.cells, V.stays, Orc.nothing, hln, h0'])
    exact RetV.same (by simp [h0])
end Go.Vc
namespace Go.Vc
/-- the answer's tokens, by so many steps -/
def ofF : Nat → List UInt8 → Bool → Nat → Res
  | 0, _, _, _ => .ok []
  | f + 1, s, c, i =>
    if i < s.length then
      if sizeR s i = 0 then .bad i
      else if c then ofF f s (decide (byt s i ≠ 10)) (i + sizeR s i)
      else if byt s i = 35 then ofF f s true (i + 1)
      else if byt s i = 32 ∨ byt s i = 9 ∨ byt s i = 10 then ofF f s false (i + 1)
      else if 48 ≤ byt s i ∧ byt s i ≤ 57 then
        if numBad (digsAt s i) then .bad i
        else (ofF f s false (i + digLen (s.drop i))).cons ⟨2, 0, numR (digsAt s i), i⟩
      else (ofF f s false (i + sizeR s i)).cons ⟨1, runeR s i (sizeR s i), 0, i⟩
    else .ok []
theorem ofF_eq (s : List UInt8) : ∀ (f : Nat) (c : Bool) (i : Nat), s.length - i ≤ f → ofF f s c i = ofI s c i
  | 0, c, i, h => by rw [ofI_end (by omega)]; rfl
  | f + 1, c, i, h => by
    unfold ofF
    by_cases hlt : i < s.length
    · rw [if_pos hlt]
      by_cases hz : sizeR s i = 0
      · rw [if_pos hz, ofI_bad hlt hz]
      · rw [if_neg hz]
        cases c
        · rw [if_neg (by simp)]
          by_cases h35 : byt s i = 35
          · rw [if_pos h35, ofI_hash hlt hz h35, ofF_eq s f true (i + 1) (by omega)]
          · rw [if_neg h35]
            by_cases hw : byt s i = 32 ∨ byt s i = 9 ∨ byt s i = 10
            · rw [if_pos hw, ofI_white hlt hz hw, ofF_eq s f false (i + 1) (by omega)]
            · rw [if_neg hw]
              by_cases hd : 48 ≤ byt s i ∧ byt s i ≤ 57
              · have hdp := digLen_pos hd.1 hd.2
                rw [if_pos hd, ofI_num hlt hz hd, ofF_eq s f false _ (by omega)]
              · rw [if_neg hd, ofI_sign hlt hz (by omega), ofF_eq s f false _ (by omega)]
        · rw [if_pos rfl, ofI_com hlt hz, ofF_eq s f _ _ (by omega)]
    · rw [if_neg hlt, ofI_end hlt]
end Go.Vc
namespace Go.Vc
open Go.Proofs
/-- a script is read, by so many steps -/
def readF (s : List UInt8) : List Nd × Int × Int := match ofF s.length s false 0 with
  | .bad p => ([], p, 1)
  | .ok l => match (nodesR l.length l).2.1 with
    | t :: _ => ([], t.at', 1)
    | [] => if (nodesR l.length l).2.2 then ([], s.length, 1) else (toldL (nodesR l.length l).1, 0, 0)
theorem readF_eq (s : List UInt8) : readF s = readR s := by
  unfold readF readR
  rw [ofF_eq s s.length false 0 (by omega)]
  all_goals (cases ofI s false 0 <;> rfl)
theorem readB_of {s : List UInt8} {want : List Nd} (h : readF s = (want, 0, 0)) : readB s want = true := by
  rw [readF_eq] at h
  simp [readB, h]
theorem wrongB_of {s : List UInt8} {p : Int} (h : readF s = ([], p, 1)) : wrongB s p = true := by
  rw [readF_eq] at h
  simp [wrongB, h]
theorem isr_own {s : List UInt8} {want : List Nd} (hs : s.length ≤ 10000) (hw : Fine want) (hr : readF s = (want, 0, 0)) {σ : Store} {id n : Nat} {rows : List V} (hn : n = rows.length) (ho : σ id = some ⟨37, 20, rows⟩)
    (hf : FzL σ (fun _ => True) rows (want.map encN)) : Contract Tryd.prog 31 [.str s, .own id 0 n] σ fun r σ' => r = .bool true ∧ σ' = σ := by
  refine PFun.borrow (args' := [.str s, encNs want]) ⟨Wk.refl (nost_sub σ) _, ?_, trivial⟩ (readB_of hr ▸ isr_c s want hs hw) rfl
  refine (Fz.own id 0 n ⟨_, 20, rows⟩ _ ho trivial (by simp [hn]) ?_ : Fz σ (fun _ => True) _ _).wk (nost_sub σ) (fun _ _ => rfl)
  rw [List.drop_zero, List.take_of_length_le (by simp [hn])]
  exact hf
theorem wrong_y {s : List UInt8} {p : Int} (hs : s.length ≤ 10000) (hr : readF s = ([], p, 1)) : PFun Tryd.prog 33 [.str s, vI p] (.bool true) := wrongB_of hr ▸ wrongr_c s p hs
def blkN (size top widows before : Int) : Nd := ⟨1, size, ⟨top, 0, 0, 0, 0, 2, widows, 0, before, 0, 0, 0⟩, 0, 0, [], 0, 0, 0⟩
theorem lblock_c (size top widows before : Int) : PFun Tryd.prog 32 [vI size, vI top, vI widows, vI before] (ndW (blkN size top widows before) .nils) := fun σ => by
  refine Contract.of_runs Tryd.func32 e32 k32 (by simp [c32]) ?_
  refine Runs.mix 10 ?_
  (refine Runs.of_step Orc.nothing 300 ?_; simp -implicitDefEqProofs only [BB, Int.reduceEq, Int.reduceNe, Int.reduceLT, Int.reduceLE, Int.reduceGT, Int.reduceGE, Nat.reduceEqDiff, Nat.reduceAdd, Nat.reduceMul, Nat.reduceLeDiff, Nat.reduceSub, Nat.reduceLT, Nat.reduceBEq, ↓reduceIte, reduceCtorEq, ← decide_not, okind, vpre, vpure, intBin, intPre, strBin, strPre, popTo, argSlots, fldV, fldAV, subCells, idxVV, idxAAV, idxSV, sliceV, sliceSV, boundV, szIs, storeOp, storeS, setRowV, eff, extV, buildV, splice, eqSV, fitsL, eqCells, eqCell, minmaxV, capV, binBV, nilCheckV, bytesV, V.cells, V.stays, Orc.nothing, c32])
  refine effR_new fun id8 σ8 s8 a8 f8 => ?_
  simp -implicitDefEqProofs only [BB, Int.reduceEq, Int.reduceNe, Int.reduceLT, Int.reduceLE, Int.reduceGT, Int.reduceGE, Nat.reduceEqDiff, Nat.reduceAdd, Nat.reduceMul, Nat.reduceLeDiff, Nat.reduceSub, Nat.reduceLT, Nat.reduceBEq, ↓reduceIte, reduceCtorEq, ← decide_not, okind, vpre, vpure, intBin, intPre, strBin, strPre, popTo, argSlots, fldV, fldAV, subCells, idxVV, idxAAV, idxSV, sliceV, sliceSV, boundV, szIs, storeOp, storeS, setRowV, eff, extV, buildV, splice, eqSV, fitsL, eqCells, eqCell, minmaxV, capV, binBV, nilCheckV, bytesV, V.cells, V.stays]
  refine Runs.pcall rfl rfl rfl (plain_c _) ?_
  (refine Runs.of_step Orc.nothing 300 ?_; simp -implicitDefEqProofs only [BB, Int.reduceEq, Int.reduceNe, Int.reduceLT, Int.reduceLE, Int.reduceGT, Int.reduceGE, Nat.reduceEqDiff, Nat.reduceAdd, Nat.reduceMul, Nat.reduceLeDiff, Nat.reduceSub, Nat.reduceLT, Nat.reduceBEq, ↓reduceIte, reduceCtorEq, ← decide_not, okind, vpre, vpure, intBin, intPre, strBin, strPre, popTo, argSlots, fldV, fldAV, subCells, idxVV, idxAAV, idxSV, sliceV, sliceSV, boundV, szIs, storeOp, storeS, setRowV, eff, extV, buildV, splice, eqSV, fitsL, eqCells, eqCell, minmaxV, capV, binBV, nilCheckV, bytesV, V.cells, V.stays, Orc.nothing, plainS])
  refine effR_new fun id9 σ9 s9 a9 f9 => ?_
  have n89 := ne_new a8 f9
  have b8 := s9 _ _ a8
  simp -implicitDefEqProofs only [BB, Int.reduceEq, Int.reduceNe, Int.reduceLT, Int.reduceLE, Int.reduceGT, Int.reduceGE, Nat.reduceEqDiff, Nat.reduceAdd, Nat.reduceMul, Nat.reduceLeDiff, Nat.reduceSub, Nat.reduceLT, Nat.reduceBEq, ↓reduceIte, reduceCtorEq, ← decide_not, okind, vpre, vpure, intBin, intPre, strBin, strPre, popTo, argSlots, fldV, fldAV, subCells, idxVV, idxAAV, idxSV, sliceV, sliceSV, boundV, szIs, storeOp, storeS, setRowV, eff, extV, buildV, splice, eqSV, fitsL, eqCells, eqCell, minmaxV, capV, binBV, nilCheckV, bytesV, V.cells, V.stays, a9, b8, upd_ne n89, upd_ne n89.symm]
  exact RetV.pure (((s8.trans s9).updK (s8.none f9)).updK f8) rfl
set_option maxRecDepth 100000 in
theorem awake5_c : PFun Tryd.prog 11 [] (.bool true) := fun σ => by
  refine Contract.of_runs Tryd.func11 e11 k11 (by simp [c11]) ?_
  refine Runs.mix 5 ?_
  (refine Runs.of_step Orc.nothing 300 ?_; simp -implicitDefEqProofs only [BB, Int.reduceEq, Int.reduceNe, Int.reduceLT, Int.reduceLE, Int.reduceGT, Int.reduceGE, Nat.reduceEqDiff, Nat.reduceAdd, Nat.reduceMul, Nat.reduceLeDiff, Nat.reduceSub, Nat.reduceLT, Nat.reduceBEq, ↓reduceIte, reduceCtorEq, ← decide_not, okind, vpre, vpure, intBin, intPre, strBin, strPre, popTo, argSlots, fldV, fldAV, subCells, idxVV, idxAAV, idxSV, sliceV, sliceSV, boundV, szIs, storeOp, storeS, setRowV, eff, extV, buildV, splice, eqSV, fitsL, eqCells, eqCell, minmaxV, capV, binBV, nilCheckV, bytesV, V.cells, V.stays, Orc.nothing, c11])
  refine Runs.pcall rfl rfl rfl (lblock_c 2 5 2 0 _) ?_
  (refine Runs.of_step Orc.nothing 300 ?_; simp -implicitDefEqProofs only [BB, Int.reduceEq, Int.reduceNe, Int.reduceLT, Int.reduceLE, Int.reduceGT, Int.reduceGE, Nat.reduceEqDiff, Nat.reduceAdd, Nat.reduceMul, Nat.reduceLeDiff, Nat.reduceSub, Nat.reduceLT, Nat.reduceBEq, ↓reduceIte, reduceCtorEq, ← decide_not, okind, vpre, vpure, intBin, intPre, strBin, strPre, popTo, argSlots, fldV, fldAV, subCells, idxVV, idxAAV, idxSV, sliceV, sliceSV, boundV, szIs, storeOp, storeS, setRowV, eff, extV, buildV, splice, eqSV, fitsL, eqCells, eqCell, minmaxV, capV, binBV, nilCheckV, bytesV, Orc.nothing, V.cells_agg, V.cells_int, V.cells_nils, V.cells_own, V.cells_sl, V.cells_str, V.cells_bool, V.cells_fn, V.cells_ptr, V.cells_rp, V.stays_agg, V.stays_int, V.stays_nils, V.stays_own, V.stays_sl, V.stays_str, V.stays_bool, V.stays_fn, V.stays_ptr, V.stays_rp, ndW])
  refine effR_new fun id2 σ2 s2 a2 f2 => ?_
  simp -implicitDefEqProofs only [BB, Int.reduceEq, Int.reduceNe, Int.reduceLT, Int.reduceLE, Int.reduceGT, Int.reduceGE, Nat.reduceEqDiff, Nat.reduceAdd, Nat.reduceMul, Nat.reduceLeDiff, Nat.reduceSub, Nat.reduceLT, Nat.reduceBEq, ↓reduceIte, reduceCtorEq, ← decide_not, okind, vpre, vpure, intBin, intPre, strBin, strPre, popTo, argSlots, fldV, fldAV, subCells, idxVV, idxAAV, idxSV, sliceV, sliceSV, boundV, szIs, storeOp, storeS, setRowV, eff, extV, buildV, splice, eqSV, fitsL, eqCells, eqCell, minmaxV, capV, binBV, nilCheckV, bytesV, V.cells_agg, V.cells_int, V.cells_nils, V.cells_own, V.cells_sl, V.cells_str, V.cells_bool, V.cells_fn, V.cells_ptr, V.cells_rp, V.stays_agg, V.stays_int, V.stays_nils, V.stays_own, V.stays_sl, V.stays_str, V.stays_bool, V.stays_fn, V.stays_ptr, V.stays_rp, a2]
  refine effR_new fun id4 σ4 s4 a4 f4 => ?_
  have b2 := s4 _ _ a2
  simp -implicitDefEqProofs only [BB, Int.reduceEq, Int.reduceNe, Int.reduceLT, Int.reduceLE, Int.reduceGT, Int.reduceGE, Nat.reduceEqDiff, Nat.reduceAdd, Nat.reduceMul, Nat.reduceLeDiff, Nat.reduceSub, Nat.reduceLT, Nat.reduceBEq, ↓reduceIte, reduceCtorEq, ← decide_not, okind, vpre, vpure, intBin, intPre, strBin, strPre, popTo, argSlots, fldV, fldAV, subCells, idxVV, idxAAV, idxSV, sliceV, sliceSV, boundV, szIs, storeOp, storeS, setRowV, eff, extV, buildV, splice, eqSV, fitsL, eqCells, eqCell, minmaxV, capV, binBV, nilCheckV, bytesV, V.cells, V.stays]
  have hw1 : Fine [blkN 2 5 2 0, ⟨2, 1, Sty.zero, 10, 2, [30, 40], 0, 0, 0⟩] := ⟨by simp, by simp [blkN]⟩
  refine Runs.pcall rfl rfl rfl (isr_own (want := [blkN 2 5 2 0, ⟨2, 1, Sty.zero, 10, 2, [30, 40], 0, 0, 0⟩]) (by simp) hw1 (by kernel_rfl) rfl a4
    (.cons _ _ _ _ (fz_nd (x := blkN 2 5 2 0) (.nil 1)) (.cons _ _ _ _ (fz_nd (x := ⟨2, 1, Sty.zero, 10, 2, [30, 40], 0, 0, 0⟩) (.own id2 0 2 _ _ b2 trivial (by simp) (FzL.same _ rfl))) .nil))) ?_
  (refine Runs.of_step Orc.nothing 300 ?_; simp -implicitDefEqProofs only [BB, Int.reduceEq, Int.reduceNe, Int.reduceLT, Int.reduceLE, Int.reduceGT, Int.reduceGE, Nat.reduceEqDiff, Nat.reduceAdd, Nat.reduceMul, Nat.reduceLeDiff, Nat.reduceSub, Nat.reduceLT, Nat.reduceBEq, ↓reduceIte, reduceCtorEq, ← decide_not, okind, vpre, vpure, intBin, intPre, strBin, strPre, popTo, argSlots, fldV, fldAV, subCells, idxVV, idxAAV, idxSV, sliceV, sliceSV, boundV, szIs, storeOp, storeS, setRowV, eff, extV, buildV, splice, eqSV, fitsL, eqCells, eqCell, minmaxV, capV, binBV, nilCheckV, bytesV, Orc.nothing, V.cells_agg, V.cells_int, V.cells_nils, V.cells_own, V.cells_sl, V.cells_str, V.cells_bool, V.cells_fn, V.cells_ptr, V.cells_rp, V.stays_agg, V.stays_int, V.stays_nils, V.stays_own, V.stays_sl, V.stays_str, V.stays_bool, V.stays_fn, V.stays_ptr, V.stays_rp])
  refine effR_new fun id9 σ9 s9 a9 f9 => ?_
  simp -implicitDefEqProofs only [BB, Int.reduceEq, Int.reduceNe, Int.reduceLT, Int.reduceLE, Int.reduceGT, Int.reduceGE, Nat.reduceEqDiff, Nat.reduceAdd, Nat.reduceMul, Nat.reduceLeDiff, Nat.reduceSub, Nat.reduceLT, Nat.reduceBEq, ↓reduceIte, reduceCtorEq, ← decide_not, okind, vpre, vpure, intBin, intPre, strBin, strPre, popTo, argSlots, fldV, fldAV, subCells, idxVV, idxAAV, idxSV, sliceV, sliceSV, boundV, szIs, storeOp, storeS, setRowV, eff, extV, buildV, splice, eqSV, fitsL, eqCells, eqCell, minmaxV, capV, binBV, nilCheckV, bytesV, V.cells, V.stays]
  have hw2 : Fine [⟨3, 1, Sty.zero, 0, 0, [], 0, 3, 4⟩, ⟨4, 1, Sty.zero, 0, 0, [], 1, 5, 6⟩] := ⟨by simp, by simp⟩
  refine Runs.pcall rfl rfl rfl (isr_own (want := [⟨3, 1, Sty.zero, 0, 0, [], 0, 3, 4⟩, ⟨4, 1, Sty.zero, 0, 0, [], 1, 5, 6⟩]) (by simp) hw2 (by kernel_rfl) rfl a9
    (.cons _ _ _ _ (fz_nd (x := ⟨3, 1, Sty.zero, 0, 0, [], 0, 3, 4⟩) (.nil 1)) (.cons _ _ _ _ (fz_nd (x := ⟨4, 1, Sty.zero, 0, 0, [], 1, 5, 6⟩) (.nil 1)) .nil))) ?_
  (refine Runs.of_step Orc.nothing 300 ?_; simp -implicitDefEqProofs only [BB, Int.reduceEq, Int.reduceNe, Int.reduceLT, Int.reduceLE, Int.reduceGT, Int.reduceGE, Nat.reduceEqDiff, Nat.reduceAdd, Nat.reduceMul, Nat.reduceLeDiff, Nat.reduceSub, Nat.reduceLT, Nat.reduceBEq, ↓reduceIte, reduceCtorEq, ← decide_not, okind, vpre, vpure, intBin, intPre, strBin, strPre, popTo, argSlots, fldV, fldAV, subCells, idxVV, idxAAV, idxSV, sliceV, sliceSV, boundV, szIs, storeOp, storeS, setRowV, eff, extV, buildV, splice, eqSV, fitsL, eqCells, eqCell, minmaxV, capV, binBV, nilCheckV, bytesV, V.cells, V.stays, Orc.nothing])
  refine Runs.pcall rfl rfl rfl (lblock_c 1 0 2 0 _) ?_
  (refine Runs.of_step Orc.nothing 300 ?_; simp -implicitDefEqProofs only [BB, Int.reduceEq, Int.reduceNe, Int.reduceLT, Int.reduceLE, Int.reduceGT, Int.reduceGE, Nat.reduceEqDiff, Nat.reduceAdd, Nat.reduceMul, Nat.reduceLeDiff, Nat.reduceSub, Nat.reduceLT, Nat.reduceBEq, ↓reduceIte, reduceCtorEq, ← decide_not, okind, vpre, vpure, intBin, intPre, strBin, strPre, popTo, argSlots, fldV, fldAV, subCells, idxVV, idxAAV, idxSV, sliceV, sliceSV, boundV, szIs, storeOp, storeS, setRowV, eff, extV, buildV, splice, eqSV, fitsL, eqCells, eqCell, minmaxV, capV, binBV, nilCheckV, bytesV, Orc.nothing, V.cells_agg, V.cells_int, V.cells_nils, V.cells_own, V.cells_sl, V.cells_str, V.cells_bool, V.cells_fn, V.cells_ptr, V.cells_rp, V.stays_agg, V.stays_int, V.stays_nils, V.stays_own, V.stays_sl, V.stays_str, V.stays_bool, V.stays_fn, V.stays_ptr, V.stays_rp, ndW])
  refine effR_new fun id14 σ14 s14 a14 f14 => ?_
  simp -implicitDefEqProofs only [BB, Int.reduceEq, Int.reduceNe, Int.reduceLT, Int.reduceLE, Int.reduceGT, Int.reduceGE, Nat.reduceEqDiff, Nat.reduceAdd, Nat.reduceMul, Nat.reduceLeDiff, Nat.reduceSub, Nat.reduceLT, Nat.reduceBEq, ↓reduceIte, reduceCtorEq, ← decide_not, okind, vpre, vpure, intBin, intPre, strBin, strPre, popTo, argSlots, fldV, fldAV, subCells, idxVV, idxAAV, idxSV, sliceV, sliceSV, boundV, szIs, storeOp, storeS, setRowV, eff, extV, buildV, splice, eqSV, fitsL, eqCells, eqCell, minmaxV, capV, binBV, nilCheckV, bytesV, V.cells, V.stays]
  have hw3 : Fine [blkN 1 0 2 0] := ⟨by simp, by simp [blkN]⟩
  refine Runs.pcall rfl rfl rfl (isr_own (want := [blkN 1 0 2 0]) (by simp) hw3 (by kernel_rfl) rfl a14 (.cons _ _ _ _ (fz_nd (x := blkN 1 0 2 0) (.nil 1)) .nil)) ?_
  (refine Runs.of_step Orc.nothing 300 ?_; simp -implicitDefEqProofs only [BB, Int.reduceEq, Int.reduceNe, Int.reduceLT, Int.reduceLE, Int.reduceGT, Int.reduceGE, Nat.reduceEqDiff, Nat.reduceAdd, Nat.reduceMul, Nat.reduceLeDiff, Nat.reduceSub, Nat.reduceLT, Nat.reduceBEq, ↓reduceIte, reduceCtorEq, ← decide_not, okind, vpre, vpure, intBin, intPre, strBin, strPre, popTo, argSlots, fldV, fldAV, subCells, idxVV, idxAAV, idxSV, sliceV, sliceSV, boundV, szIs, storeOp, storeS, setRowV, eff, extV, buildV, splice, eqSV, fitsL, eqCells, eqCell, minmaxV, capV, binBV, nilCheckV, bytesV, V.cells, V.stays, Orc.nothing])
  refine Runs.pcall rfl rfl rfl (lblock_c 1 0 1 4 _) ?_
  (refine Runs.of_step Orc.nothing 300 ?_; simp -implicitDefEqProofs only [BB, Int.reduceEq, Int.reduceNe, Int.reduceLT, Int.reduceLE, Int.reduceGT, Int.reduceGE, Nat.reduceEqDiff, Nat.reduceAdd, Nat.reduceMul, Nat.reduceLeDiff, Nat.reduceSub, Nat.reduceLT, Nat.reduceBEq, ↓reduceIte, reduceCtorEq, ← decide_not, okind, vpre, vpure, intBin, intPre, strBin, strPre, popTo, argSlots, fldV, fldAV, subCells, idxVV, idxAAV, idxSV, sliceV, sliceSV, boundV, szIs, storeOp, storeS, setRowV, eff, extV, buildV, splice, eqSV, fitsL, eqCells, eqCell, minmaxV, capV, binBV, nilCheckV, bytesV, Orc.nothing, V.cells_agg, V.cells_int, V.cells_nils, V.cells_own, V.cells_sl, V.cells_str, V.cells_bool, V.cells_fn, V.cells_ptr, V.cells_rp, V.stays_agg, V.stays_int, V.stays_nils, V.stays_own, V.stays_sl, V.stays_str, V.stays_bool, V.stays_fn, V.stays_ptr, V.stays_rp, ndW])
  refine effR_new fun id19 σ19 s19 a19 f19 => ?_
  simp -implicitDefEqProofs only [BB, Int.reduceEq, Int.reduceNe, Int.reduceLT, Int.reduceLE, Int.reduceGT, Int.reduceGE, Nat.reduceEqDiff, Nat.reduceAdd, Nat.reduceMul, Nat.reduceLeDiff, Nat.reduceSub, Nat.reduceLT, Nat.reduceBEq, ↓reduceIte, reduceCtorEq, ← decide_not, okind, vpre, vpure, intBin, intPre, strBin, strPre, popTo, argSlots, fldV, fldAV, subCells, idxVV, idxAAV, idxSV, sliceV, sliceSV, boundV, szIs, storeOp, storeS, setRowV, eff, extV, buildV, splice, eqSV, fitsL, eqCells, eqCell, minmaxV, capV, binBV, nilCheckV, bytesV, V.cells, V.stays]
  have hw4 : Fine [blkN 1 0 1 4] := ⟨by simp, by simp [blkN]⟩
  refine Runs.pcall rfl rfl rfl (isr_own (want := [blkN 1 0 1 4]) (by simp) hw4 (by kernel_rfl) rfl a19 (.cons _ _ _ _ (fz_nd (x := blkN 1 0 1 4) (.nil 1)) .nil)) ?_
  (refine Runs.of_step Orc.nothing 300 ?_; simp -implicitDefEqProofs only [BB, Int.reduceEq, Int.reduceNe, Int.reduceLT, Int.reduceLE, Int.reduceGT, Int.reduceGE, Nat.reduceEqDiff, Nat.reduceAdd, Nat.reduceMul, Nat.reduceLeDiff, Nat.reduceSub, Nat.reduceLT, Nat.reduceBEq, ↓reduceIte, reduceCtorEq, ← decide_not, okind, vpre, vpure, intBin, intPre, strBin, strPre, popTo, argSlots, fldV, fldAV, subCells, idxVV, idxAAV, idxSV, sliceV, sliceSV, boundV, szIs, storeOp, storeS, setRowV, eff, extV, buildV, splice, eqSV, fitsL, eqCells, eqCell, minmaxV, capV, binBV, nilCheckV, bytesV, V.cells, V.stays, Orc.nothing])
  refine Runs.pcall rfl rfl rfl (wrong_y (by simp) (by kernel_rfl) _) ?_
  (refine Runs.of_step Orc.nothing 300 ?_; simp -implicitDefEqProofs only [BB, Int.reduceEq, Int.reduceNe, Int.reduceLT, Int.reduceLE, Int.reduceGT, Int.reduceGE, Nat.reduceEqDiff, Nat.reduceAdd, Nat.reduceMul, Nat.reduceLeDiff, Nat.reduceSub, Nat.reduceLT, Nat.reduceBEq, ↓reduceIte, reduceCtorEq, ← decide_not, okind, vpre, vpure, intBin, intPre, strBin, strPre, popTo, argSlots, fldV, fldAV, subCells, idxVV, idxAAV, idxSV, sliceV, sliceSV, boundV, szIs, storeOp, storeS, setRowV, eff, extV, buildV, splice, eqSV, fitsL, eqCells, eqCell, minmaxV, capV, binBV, nilCheckV, bytesV, V.cells, V.stays, Orc.nothing])
  refine Runs.pcall rfl rfl rfl (wrong_y (by simp) (by kernel_rfl) _) ?_
  (refine Runs.of_step Orc.nothing 300 ?_; simp -implicitDefEqProofs only [BB, Int.reduceEq, Int.reduceNe, Int.reduceLT, Int.reduceLE, Int.reduceGT, Int.reduceGE, Nat.reduceEqDiff, Nat.reduceAdd, Nat.reduceMul, Nat.reduceLeDiff, Nat.reduceSub, Nat.reduceLT, Nat.reduceBEq, ↓reduceIte, reduceCtorEq, ← decide_not, okind, vpre, vpure, intBin, intPre, strBin, strPre, popTo, argSlots, fldV, fldAV, subCells, idxVV, idxAAV, idxSV, sliceV, sliceSV, boundV, szIs, storeOp, storeS, setRowV, eff, extV, buildV, splice, eqSV, fitsL, eqCells, eqCell, minmaxV, capV, binBV, nilCheckV, bytesV, V.cells, V.stays, Orc.nothing])
  refine Runs.pcall rfl rfl rfl (wrong_y (by simp) (by kernel_rfl) _) ?_
  (refine Runs.of_step Orc.nothing 300 ?_; simp -implicitDefEqProofs only [BB, Int.reduceEq, Int.reduceNe, Int.reduceLT, Int.reduceLE, Int.reduceGT, Int.reduceGE, Nat.reduceEqDiff, Nat.reduceAdd, Nat.reduceMul, Nat.reduceLeDiff, Nat.reduceSub, Nat.reduceLT, Nat.reduceBEq, ↓reduceIte, reduceCtorEq, ← decide_not, okind, vpre, vpure, intBin, intPre, strBin, strPre, popTo, argSlots, fldV, fldAV, subCells, idxVV, idxAAV, idxSV, sliceV, sliceSV, boundV, szIs, storeOp, storeS, setRowV, eff, extV, buildV, splice, eqSV, fitsL, eqCells, eqCell, minmaxV, capV, binBV, nilCheckV, bytesV, V.cells, V.stays, Orc.nothing])
  refine Runs.pcall rfl rfl rfl (wrong_y (by simp) (by kernel_rfl) _) ?_
  (refine Runs.of_step Orc.nothing 300 ?_; simp -implicitDefEqProofs only [BB, Int.reduceEq, Int.reduceNe, Int.reduceLT, Int.reduceLE, Int.reduceGT, Int.reduceGE, Nat.reduceEqDiff, Nat.reduceAdd, Nat.reduceMul, Nat.reduceLeDiff, Nat.reduceSub, Nat.reduceLT, Nat.reduceBEq, ↓reduceIte, reduceCtorEq, ← decide_not, okind, vpre, vpure, intBin, intPre, strBin, strPre, popTo, argSlots, fldV, fldAV, subCells, idxVV, idxAAV, idxSV, sliceV, sliceSV, boundV, szIs, storeOp, storeS, setRowV, eff, extV, buildV, splice, eqSV, fitsL, eqCells, eqCell, minmaxV, capV, binBV, nilCheckV, bytesV, V.cells, V.stays, Orc.nothing])
  exact RetV.pure ((((s2.trans s4).trans s9).trans s14).trans s19) rfl
end Go.Vc
namespace Go.Vc
open Go.Proofs
def vastB (l : List Nd) : Bool := decide (l.length > 200) || l.any fun x => decide (x.words.length > 100)
theorem vastB_fine {l : List Nd} (h : vastB l = false) : l.length ≤ 200 ∧ ∀ x ∈ l, x.words.length ≤ 100 := by
  simp only [vastB, Bool.or_eq_false_iff, decide_eq_false_iff_not, List.any_eq_false, decide_eq_true_eq] at h
  exact ⟨by omega, fun x hx => by have := h.2 x hx; omega⟩
theorem any_take {α : Type} (p : α → Bool) (l : List α) (i : Nat) (h : i < l.length) : (l.take (i + 1)).any p = ((l.take i).any p || p l[i]) := by
  rw [List.take_succ_eq_append_getElem h, List.any_append]
  simp
theorem vast5_c (l : List Nd) : PFun Tryd.prog 19 [encNs l] (.bool (vastB l)) := fun σ => by
  refine Contract.of_runs Tryd.func19 e19 k19 (by simp [c19]) ?_
  refine Runs.mix 4 ?_
  by_cases hl : l.length > 200
  · have q1 : ((l.length : Int) > 200) = True := by simp; omega
    (refine Runs.of_step Orc.nothing 300 ?_; simp -implicitDefEqProofs only [BB, Int.reduceEq, Int.reduceNe, Int.reduceLT, Int.reduceLE, Int.reduceGT, Int.reduceGE, Nat.reduceEqDiff, Nat.reduceAdd, Nat.reduceMul, Nat.reduceLeDiff, Nat.reduceSub, Nat.reduceLT, Nat.reduceBEq, ↓reduceIte, reduceCtorEq, ← decide_not, okind, vpre, vpure, intBin, intPre, strBin, strPre, popTo, argSlots, fldV, fldAV, subCells, idxVV, idxAAV, idxSV, sliceV, sliceSV, boundV, szIs, storeOp, storeS, setRowV, eff, extV, buildV, splice, eqSV, fitsL, eqCells, eqCell, minmaxV, capV, binBV, nilCheckV, bytesV, V.cells, V.stays, Orc.nothing, c19, lenV_encNs, q1])
    exact RetV.same (by simp [vastB, hl])
  · have q1 : ((l.length : Int) > 200) = False := by simp; omega
    (refine Runs.of_step Orc.nothing 300 ?_; simp -implicitDefEqProofs only [BB, Int.reduceEq, Int.reduceNe, Int.reduceLT, Int.reduceLE, Int.reduceGT, Int.reduceGE, Nat.reduceEqDiff, Nat.reduceAdd, Nat.reduceMul, Nat.reduceLeDiff, Nat.reduceSub, Nat.reduceLT, Nat.reduceBEq, ↓reduceIte, reduceCtorEq, ← decide_not, okind, vpre, vpure, intBin, intPre, strBin, strPre, popTo, argSlots, fldV, fldAV, subCells, idxVV, idxAAV, idxSV, sliceV, sliceSV, boundV, szIs, storeOp, storeS, setRowV, eff, extV, buildV, splice, eqSV, fitsL, eqCells, eqCell, minmaxV, capV, binBV, nilCheckV, bytesV, V.cells, V.stays, Orc.nothing, c19, lenV_encNs, q1])
    refine Runs.loop (fun m st => ∃ i : Nat, i ≤ l.length ∧ m = l.length - i ∧ (l.take i).any (fun x => decide (x.words.length > 100)) = false ∧ st.σ = σ ∧ st.s 0 = encNs l ∧ st.s 3 = vI i) l.length
      ⟨0, by omega, by omega, by simp, rfl, rfl, rfl⟩ ?_
    rintro m ⟨s, σ'⟩ ⟨i, hi, rfl, hp, hσ, h0, h3⟩
    simp only at hσ h0 h3
    subst hσ
    refine Runs.mix 4 ?_
    by_cases hlt : i < l.length
    · have hlt' : ((i : Int) < (l.length : Int)) = True := by simp; omega
      have hin : inR .i64 ((i : Int) + 1) := inR_i64 (by omega) (by omega)
      have ht := any_take (fun x : Nd => decide (x.words.length > 100)) l i hlt
      rw [hp, Bool.false_or] at ht
      have hix := fun σ => idxAV_encNs (σ := σ) hlt
      by_cases hw : l[i].words.length > 100
      · have q2 : ((l[i].words.length : Int) > 100) = True := by simp; omega
        (refine Runs.of_step Orc.nothing 300 ?_; simp -implicitDefEqProofs only [BB, Int.reduceEq, Int.reduceNe, Int.reduceLT, Int.reduceLE, Int.reduceGT, Int.reduceGE, Nat.reduceEqDiff, Nat.reduceAdd, Nat.reduceMul, Nat.reduceLeDiff, Nat.reduceSub, Nat.reduceLT, Nat.reduceBEq, ↓reduceIte, reduceCtorEq, ← decide_not, okind, vpre, vpure, intBin, intPre, strBin, strPre, popTo, argSlots, fldV, fldAV, subCells, idxVV, idxAAV, idxSV, sliceV, sliceSV, boundV, szIs, storeOp, storeS, setRowV, eff, extV, buildV, splice, eqSV, fitsL, eqCells, eqCell, minmaxV, capV, binBV, nilCheckV, bytesV, V.cells, V.stays, Orc.nothing, h0, h3, lenV_encNs, hlt', hix, Nd.cells, loadV_rp_encI, lenV_encI, q2])
        refine RetV.same ?_
        have : l.any (fun x => decide (x.words.length > 100)) = true := List.any_eq_true.2 ⟨_, List.getElem_mem hlt, by simp [hw]⟩
        simp only [vastB, this, Bool.or_true]
      · have q2 : ((l[i].words.length : Int) > 100) = False := by simp; omega
        (refine Runs.of_step Orc.nothing 300 ?_; simp -implicitDefEqProofs only [BB, Int.reduceEq, Int.reduceNe, Int.reduceLT, Int.reduceLE, Int.reduceGT, Int.reduceGE, Nat.reduceEqDiff, Nat.reduceAdd, Nat.reduceMul, Nat.reduceLeDiff, Nat.reduceSub, Nat.reduceLT, Nat.reduceBEq, ↓reduceIte, reduceCtorEq, ← decide_not, okind, vpre, vpure, intBin, intPre, strBin, strPre, popTo, argSlots, fldV, fldAV, subCells, idxVV, idxAAV, idxSV, sliceV, sliceSV, boundV, szIs, storeOp, storeS, setRowV, eff, extV, buildV, splice, eqSV, fitsL, eqCells, eqCell, minmaxV, capV, binBV, nilCheckV, bytesV, V.cells, V.stays, Orc.nothing, h0, h3, lenV_encNs, hlt', hix, Nd.cells, loadV_rp_encI, lenV_encI, q2, hin])
        exact ⟨_, by omega, i + 1, by omega, rfl, by rw [ht]; simp [hw], by simp⟩
    · have hlt' : ((i : Int) < (l.length : Int)) = False := by simp; omega
      have hie : i = l.length := by omega
      subst hie
      rw [List.take_length] at hp
      (refine Runs.of_step Orc.nothing 300 ?_; simp -implicitDefEqProofs only [BB, Int.reduceEq, Int.reduceNe, Int.reduceLT, Int.reduceLE, Int.reduceGT, Int.reduceGE, Nat.reduceEqDiff, Nat.reduceAdd, Nat.reduceMul, Nat.reduceLeDiff, Nat.reduceSub, Nat.reduceLT, Nat.reduceBEq, ↓reduceIte, reduceCtorEq, ← decide_not, okind, vpre, vpure, intBin, intPre, strBin, strPre, popTo, argSlots, fldV, fldAV, subCells, idxVV, idxAAV, idxSV, sliceV, sliceSV, boundV, szIs, storeOp, storeS, setRowV, eff, extV, buildV, splice, eqSV, fitsL, eqCells, eqCell, minmaxV, capV, binBV, nilCheckV, bytesV, V.cells, V.stays, Orc.nothing, h0, h3, lenV_encNs, hlt'])
      exact RetV.same (by simp only [vastB, hp, Bool.or_false]; simp [hl])
set_option maxRecDepth 100000 in
theorem readSame_c (a b : List Nd) : PFun Tryd.prog 5 [encNs a, encNs b] (.bool true) := fun σ => by
  refine Contract.of_runs Tryd.func5 e5 k5 (by simp [c5]) ?_
  refine Runs.mix 6 ?_
  (refine Runs.of_step Orc.nothing 300 ?_; simp -implicitDefEqProofs only [BB, Int.reduceEq, Int.reduceNe, Int.reduceLT, Int.reduceLE, Int.reduceGT, Int.reduceGE, Nat.reduceEqDiff, Nat.reduceAdd, Nat.reduceMul, Nat.reduceLeDiff, Nat.reduceSub, Nat.reduceLT, Nat.reduceBEq, ↓reduceIte, reduceCtorEq, ← decide_not, okind, vpre, vpure, intBin, intPre, strBin, strPre, popTo, argSlots, fldV, fldAV, subCells, idxVV, idxAAV, idxSV, sliceV, sliceSV, boundV, szIs, storeOp, storeS, setRowV, eff, extV, buildV, splice, eqSV, fitsL, eqCells, eqCell, minmaxV, capV, binBV, nilCheckV, bytesV, V.cells, V.stays, Orc.nothing, c5])
  refine Runs.pcall rfl rfl rfl (vast5_c a _) ?_
  cases hva : vastB a with
  | true =>
    (refine Runs.of_step Orc.nothing 300 ?_; simp -implicitDefEqProofs only [BB, Int.reduceEq, Int.reduceNe, Int.reduceLT, Int.reduceLE, Int.reduceGT, Int.reduceGE, Nat.reduceEqDiff, Nat.reduceAdd, Nat.reduceMul, Nat.reduceLeDiff, Nat.reduceSub, Nat.reduceLT, Nat.reduceBEq, ↓reduceIte, reduceCtorEq, ← decide_not, okind, vpre, vpure, intBin, intPre, strBin, strPre, popTo, argSlots, fldV, fldAV, subCells, idxVV, idxAAV, idxSV, sliceV, sliceSV, boundV, szIs, storeOp, storeS, setRowV, eff, extV, buildV, splice, eqSV, fitsL, eqCells, eqCell, minmaxV, capV, binBV, nilCheckV, bytesV, V.cells, V.stays, Orc.nothing])
    refine Runs.pcall rfl rfl rfl (awake5_c _) ?_
    (refine Runs.of_step Orc.nothing 300 ?_; simp -implicitDefEqProofs only [BB, Int.reduceEq, Int.reduceNe, Int.reduceLT, Int.reduceLE, Int.reduceGT, Int.reduceGE, Nat.reduceEqDiff, Nat.reduceAdd, Nat.reduceMul, Nat.reduceLeDiff, Nat.reduceSub, Nat.reduceLT, Nat.reduceBEq, ↓reduceIte, reduceCtorEq, ← decide_not, okind, vpre, vpure, intBin, intPre, strBin, strPre, popTo, argSlots, fldV, fldAV, subCells, idxVV, idxAAV, idxSV, sliceV, sliceSV, boundV, szIs, storeOp, storeS, setRowV, eff, extV, buildV, splice, eqSV, fitsL, eqCells, eqCell, minmaxV, capV, binBV, nilCheckV, bytesV, V.cells, V.stays, Orc.nothing])
    exact RetV.same rfl
  | false =>
    (refine Runs.of_step Orc.nothing 300 ?_; simp -implicitDefEqProofs only [BB, Int.reduceEq, Int.reduceNe, Int.reduceLT, Int.reduceLE, Int.reduceGT, Int.reduceGE, Nat.reduceEqDiff, Nat.reduceAdd, Nat.reduceMul, Nat.reduceLeDiff, Nat.reduceSub, Nat.reduceLT, Nat.reduceBEq, ↓reduceIte, reduceCtorEq, ← decide_not, okind, vpre, vpure, intBin, intPre, strBin, strPre, popTo, argSlots, fldV, fldAV, subCells, idxVV, idxAAV, idxSV, sliceV, sliceSV, boundV, szIs, storeOp, storeS, setRowV, eff, extV, buildV, splice, eqSV, fitsL, eqCells, eqCell, minmaxV, capV, binBV, nilCheckV, bytesV, V.cells, V.stays, Orc.nothing])
    refine Runs.pcall rfl rfl rfl (vast5_c b _) ?_
    cases hvb : vastB b with
    | true =>
      (refine Runs.of_step Orc.nothing 300 ?_; simp -implicitDefEqProofs only [BB, Int.reduceEq, Int.reduceNe, Int.reduceLT, Int.reduceLE, Int.reduceGT, Int.reduceGE, Nat.reduceEqDiff, Nat.reduceAdd, Nat.reduceMul, Nat.reduceLeDiff, Nat.reduceSub, Nat.reduceLT, Nat.reduceBEq, ↓reduceIte, reduceCtorEq, ← decide_not, okind, vpre, vpure, intBin, intPre, strBin, strPre, popTo, argSlots, fldV, fldAV, subCells, idxVV, idxAAV, idxSV, sliceV, sliceSV, boundV, szIs, storeOp, storeS, setRowV, eff, extV, buildV, splice, eqSV, fitsL, eqCells, eqCell, minmaxV, capV, binBV, nilCheckV, bytesV, V.cells, V.stays, Orc.nothing])
      refine Runs.pcall rfl rfl rfl (awake5_c _) ?_
      (refine Runs.of_step Orc.nothing 300 ?_; simp -implicitDefEqProofs only [BB, Int.reduceEq, Int.reduceNe, Int.reduceLT, Int.reduceLE, Int.reduceGT, Int.reduceGE, Nat.reduceEqDiff, Nat.reduceAdd, Nat.reduceMul, Nat.reduceLeDiff, Nat.reduceSub, Nat.reduceLT, Nat.reduceBEq, ↓reduceIte, reduceCtorEq, ← decide_not, okind, vpre, vpure, intBin, intPre, strBin, strPre, popTo, argSlots, fldV, fldAV, subCells, idxVV, idxAAV, idxSV, sliceV, sliceSV, boundV, szIs, storeOp, storeS, setRowV, eff, extV, buildV, splice, eqSV, fitsL, eqCells, eqCell, minmaxV, capV, binBV, nilCheckV, bytesV, V.cells, V.stays, Orc.nothing])
      exact RetV.same rfl
    | false =>
      obtain ⟨a1, a2⟩ := vastB_fine hva
      obtain ⟨b1, b2⟩ := vastB_fine hvb
      have fa : Fine a := ⟨by omega, fun x hx => by have := a2 x hx; omega⟩
      have fb : Fine b := ⟨by omega, fun x hx => by have := b2 x hx; omega⟩
      (refine Runs.of_step Orc.nothing 300 ?_; simp -implicitDefEqProofs only [BB, Int.reduceEq, Int.reduceNe, Int.reduceLT, Int.reduceLE, Int.reduceGT, Int.reduceGE, Nat.reduceEqDiff, Nat.reduceAdd, Nat.reduceMul, Nat.reduceLeDiff, Nat.reduceSub, Nat.reduceLT, Nat.reduceBEq, ↓reduceIte, reduceCtorEq, ← decide_not, okind, vpre, vpure, intBin, intPre, strBin, strPre, popTo, argSlots, fldV, fldAV, subCells, idxVV, idxAAV, idxSV, sliceV, sliceSV, boundV, szIs, storeOp, storeS, setRowV, eff, extV, buildV, splice, eqSV, fitsL, eqCells, eqCell, minmaxV, capV, binBV, nilCheckV, bytesV, V.cells, V.stays, Orc.nothing])
      refine Runs.pcall rfl rfl rfl (own_c a ⟨by omega, fun x hx => by have := a2 x hx; omega⟩ _) ?_
      (refine Runs.of_step Orc.nothing 300 ?_; simp -implicitDefEqProofs only [BB, Int.reduceEq, Int.reduceNe, Int.reduceLT, Int.reduceLE, Int.reduceGT, Int.reduceGE, Nat.reduceEqDiff, Nat.reduceAdd, Nat.reduceMul, Nat.reduceLeDiff, Nat.reduceSub, Nat.reduceLT, Nat.reduceBEq, ↓reduceIte, reduceCtorEq, ← decide_not, okind, vpre, vpure, intBin, intPre, strBin, strPre, popTo, argSlots, fldV, fldAV, subCells, idxVV, idxAAV, idxSV, sliceV, sliceSV, boundV, szIs, storeOp, storeS, setRowV, eff, extV, buildV, splice, eqSV, fitsL, eqCells, eqCell, minmaxV, capV, binBV, nilCheckV, bytesV, V.cells, V.stays, Orc.nothing])
      refine Runs.pcall rfl rfl rfl (same9_c a b fa fb _) ?_
      (refine Runs.of_step Orc.nothing 300 ?_; simp -implicitDefEqProofs only [BB, Int.reduceEq, Int.reduceNe, Int.reduceLT, Int.reduceLE, Int.reduceGT, Int.reduceGE, Nat.reduceEqDiff, Nat.reduceAdd, Nat.reduceMul, Nat.reduceLeDiff, Nat.reduceSub, Nat.reduceLT, Nat.reduceBEq, ↓reduceIte, reduceCtorEq, ← decide_not, okind, vpre, vpure, intBin, intPre, strBin, strPre, popTo, argSlots, fldV, fldAV, subCells, idxVV, idxAAV, idxSV, sliceV, sliceSV, boundV, szIs, storeOp, storeS, setRowV, eff, extV, buildV, splice, eqSV, fitsL, eqCells, eqCell, minmaxV, capV, binBV, nilCheckV, bytesV, V.cells, V.stays, Orc.nothing])
      refine Runs.pcall rfl rfl rfl (same5_c a b fa fb _) ?_
      (refine Runs.of_step Orc.nothing 300 ?_; simp -implicitDefEqProofs only [BB, Int.reduceEq, Int.reduceNe, Int.reduceLT, Int.reduceLE, Int.reduceGT, Int.reduceGE, Nat.reduceEqDiff, Nat.reduceAdd, Nat.reduceMul, Nat.reduceLeDiff, Nat.reduceSub, Nat.reduceLT, Nat.reduceBEq, ↓reduceIte, reduceCtorEq, ← decide_not, okind, vpre, vpure, intBin, intPre, strBin, strPre, popTo, argSlots, fldV, fldAV, subCells, idxVV, idxAAV, idxSV, sliceV, sliceSV, boundV, szIs, storeOp, storeS, setRowV, eff, extV, buildV, splice, eqSV, fitsL, eqCells, eqCell, minmaxV, capV, binBV, nilCheckV, bytesV, V.cells, V.stays, Orc.nothing, beq_self_eq_true])
      refine Runs.pcall rfl rfl rfl (same9_c b a fb fa _) ?_
      (refine Runs.of_step Orc.nothing 300 ?_; simp -implicitDefEqProofs only [BB, Int.reduceEq, Int.reduceNe, Int.reduceLT, Int.reduceLE, Int.reduceGT, Int.reduceGE, Nat.reduceEqDiff, Nat.reduceAdd, Nat.reduceMul, Nat.reduceLeDiff, Nat.reduceSub, Nat.reduceLT, Nat.reduceBEq, ↓reduceIte, reduceCtorEq, ← decide_not, okind, vpre, vpure, intBin, intPre, strBin, strPre, popTo, argSlots, fldV, fldAV, subCells, idxVV, idxAAV, idxSV, sliceV, sliceSV, boundV, szIs, storeOp, storeS, setRowV, eff, extV, buildV, splice, eqSV, fitsL, eqCells, eqCell, minmaxV, capV, binBV, nilCheckV, bytesV, V.cells, V.stays, Orc.nothing])
      refine Runs.pcall rfl rfl rfl (same5_c b a fb fa _) ?_
      (refine Runs.of_step Orc.nothing 300 ?_; simp -implicitDefEqProofs only [BB, Int.reduceEq, Int.reduceNe, Int.reduceLT, Int.reduceLE, Int.reduceGT, Int.reduceGE, Nat.reduceEqDiff, Nat.reduceAdd, Nat.reduceMul, Nat.reduceLeDiff, Nat.reduceSub, Nat.reduceLT, Nat.reduceBEq, ↓reduceIte, reduceCtorEq, ← decide_not, okind, vpre, vpure, intBin, intPre, strBin, strPre, popTo, argSlots, fldV, fldAV, subCells, idxVV, idxAAV, idxSV, sliceV, sliceSV, boundV, szIs, storeOp, storeS, setRowV, eff, extV, buildV, splice, eqSV, fitsL, eqCells, eqCell, minmaxV, capV, binBV, nilCheckV, bytesV, V.cells, V.stays, Orc.nothing, beq_self_eq_true])
      refine Runs.pcall rfl rfl rfl (same9_c a a fa fa _) ?_
      rw [decide_eq_true rfl]
      (refine Runs.of_step Orc.nothing 300 ?_; simp -implicitDefEqProofs only [BB, Int.reduceEq, Int.reduceNe, Int.reduceLT, Int.reduceLE, Int.reduceGT, Int.reduceGE, Nat.reduceEqDiff, Nat.reduceAdd, Nat.reduceMul, Nat.reduceLeDiff, Nat.reduceSub, Nat.reduceLT, Nat.reduceBEq, ↓reduceIte, reduceCtorEq, ← decide_not, okind, vpre, vpure, intBin, intPre, strBin, strPre, popTo, argSlots, fldV, fldAV, subCells, idxVV, idxAAV, idxSV, sliceV, sliceSV, boundV, szIs, storeOp, storeS, setRowV, eff, extV, buildV, splice, eqSV, fitsL, eqCells, eqCell, minmaxV, capV, binBV, nilCheckV, bytesV, V.cells, V.stays, Orc.nothing])
      refine Runs.pcall rfl rfl rfl (same5_c a a fa fa _) ?_
      rw [decide_eq_true rfl]
      (refine Runs.of_step Orc.nothing 300 ?_; simp -implicitDefEqProofs only [BB, Int.reduceEq, Int.reduceNe, Int.reduceLT, Int.reduceLE, Int.reduceGT, Int.reduceGE, Nat.reduceEqDiff, Nat.reduceAdd, Nat.reduceMul, Nat.reduceLeDiff, Nat.reduceSub, Nat.reduceLT, Nat.reduceBEq, ↓reduceIte, reduceCtorEq, ← decide_not, okind, vpre, vpure, intBin, intPre, strBin, strPre, popTo, argSlots, fldV, fldAV, subCells, idxVV, idxAAV, idxSV, sliceV, sliceSV, boundV, szIs, storeOp, storeS, setRowV, eff, extV, buildV, splice, eqSV, fitsL, eqCells, eqCell, minmaxV, capV, binBV, nilCheckV, bytesV, V.cells, V.stays, Orc.nothing])
      refine Runs.pcall rfl rfl rfl (awake5_c _) ?_
      (refine Runs.of_step Orc.nothing 300 ?_; simp -implicitDefEqProofs only [BB, Int.reduceEq, Int.reduceNe, Int.reduceLT, Int.reduceLE, Int.reduceGT, Int.reduceGE, Nat.reduceEqDiff, Nat.reduceAdd, Nat.reduceMul, Nat.reduceLeDiff, Nat.reduceSub, Nat.reduceLT, Nat.reduceBEq, ↓reduceIte, reduceCtorEq, ← decide_not, okind, vpre, vpure, intBin, intPre, strBin, strPre, popTo, argSlots, fldV, fldAV, subCells, idxVV, idxAAV, idxSV, sliceV, sliceSV, boundV, szIs, storeOp, storeS, setRowV, eff, extV, buildV, splice, eqSV, fitsL, eqCells, eqCell, minmaxV, capV, binBV, nilCheckV, bytesV, V.cells, V.stays, Orc.nothing])
      exact RetV.same rfl
end Go.Vc
