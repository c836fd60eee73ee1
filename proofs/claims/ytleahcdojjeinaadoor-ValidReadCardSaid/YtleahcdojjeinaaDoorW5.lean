/- Part 5 of the library of this proof. -/
import Derived.Test.YtleahcdojjeinaaDoorW4
set_option linter.all false
namespace Go.Vc
open Go.Proofs
theorem del1_c {σ : Store} {c : Nat} {i : Int} (h : σ c = some ⟨3, 1, [vI i]⟩) (n : Int) : Contract Tryd.prog 80 [vI n, .ptr c 0 0] σ fun r σ' => r = .bool (decide (n ≤ i)) ∧ σ' = σ := by
  refine Contract.of_runs Tryd.func80 e80 k80 (by simp [c80]) ?_
  (refine Runs.of_step Orc.nothing 300 ?_; simp -implicitDefEqProofs only [BB,seval,effR_some,effD_some,← decide_not,okind,vpre,vpure,intBin,intPre,strBin,strPre,popTo,argSlots,fldV,fldAV,subCells,idxVV,idxAAV,idxSV,sliceV,sliceSV,boundV,szIs,storeOp,storeS,setRowV,eff,extV,buildV,splice,eqSV,fitsL,eqCells,eqCell,minmaxV,capV,binBV,nilCheckV,bytesV,V.cells,V.stays,Orc.nothing,c80,h])
  exact RetV.same rfl
abbrev kept (i : Int) (l : List Int) : List Int := l.filter fun n => !decide (n ≤ i)
theorem firstI_none {p : Int → Bool} : ∀ {l : List Int}, firstI p l < 0 → l.filter (fun n => !p n) = l
  | [], _ => rfl
  | x :: l, h => by
    simp only [firstI] at h
    split at h
    · omega
    · rename_i hp
      have hp' : p x = false := by simpa using hp
      split at h
      · rename_i h2
        simp only [List.filter_cons,hp',Bool.not_false,if_true,firstI_none h2]
      · have := firstI_ge p l; omega
theorem firstI_some {p : Int → Bool} : ∀ {l : List Int}, ¬ firstI p l < 0 → (firstI p l).toNat < l.length ∧ (l.take (firstI p l).toNat).filter (fun n => !p n) = l.take (firstI p l).toNat ∧
    ∀ x, l[(firstI p l).toNat]? = some x → p x = true
  | [], h => by simp [firstI] at h
  | x :: l, h => by
    simp only [firstI] at h ⊢
    split
    · rename_i hp
      refine ⟨by simp, by simp, ?_⟩
      intro y hy
      simp at hy; subst hy; exact hp
    · rename_i hp
      rw [if_neg hp] at h
      have hp' : p x = false := by simpa using hp
      split
      · rename_i h2; rw [if_pos h2] at h; omega
      · rename_i h2
        obtain ⟨g1, g2, g3⟩ := firstI_some h2
        have := firstI_ge p l
        have e : (firstI p l + 1).toNat = (firstI p l).toNat + 1 := by omega
        rw [e]
        refine ⟨by simp; omega, ?_, ?_⟩
        · simp only [List.take_succ_cons,List.filter_cons,hp',Bool.not_false,if_true,g2]
        · simpa using g3
set_option maxRecDepth 100000 in
theorem delete_c {σ : Store} {e c k : Nat} {i : Int} {full : List Int} (he : σ e = some ⟨3, 1, full.map vI⟩) (hc : σ c = some ⟨3, 1, [vI i]⟩) (hne : c ≠ e) (hk : k ≤ full.length) (hfl : full.length ≤ 1000000000000) :
    Contract Tryd.prog 79 [.own e 0 k, .fn 80 [.ptr c 0 0]] σ fun r σ' => ∃ (k' : Nat) (full' : List Int), r = .own e 0 k' ∧ σ' = upd σ e ⟨3, 1, full'.map vI⟩ ∧ k' ≤ full'.length ∧ full'.length ≤ full.length ∧ full'.take k' = kept i (full.take k) := by
  have hlk : (full.take k).length = k := by simp; omega
  have hr : Reads σ 1 false (.own e 0 k) ((full.take k).map vI) := by
    have := Reads.own (σ := σ) (off := 0) (len := k) he rfl (by simpa using hk) (fun r hr => by simp only [List.mem_map] at hr; obtain ⟨n, _, rfl⟩ := hr; rfl)
    simpa using this
  refine Contract.of_runs Tryd.func79 e79 k79 (by simp [c79]) ?_
  refine Runs.mix 8 ?_
  (refine Runs.of_step Orc.nothing 300 ?_; simp -implicitDefEqProofs only [BB,seval,effR_some,effD_some,← decide_not,okind,vpre,vpure,intBin,intPre,strBin,strPre,popTo,argSlots,fldV,fldAV,subCells,idxVV,idxAAV,idxSV,sliceV,sliceSV,boundV,szIs,storeOp,storeS,setRowV,eff,extV,buildV,splice,eqSV,fitsL,eqCells,eqCell,minmaxV,capV,binBV,nilCheckV,bytesV,V.cells,V.stays,Orc.nothing,c79])
  refine Runs.pcall rfl rfl rfl (indexFunc_c (p := fun n => decide (n ≤ i)) hr (by omega) (fun n _ => del1_c hc n)) ?_
  generalize hw : firstI (fun n => decide (n ≤ i)) (full.take k) = w
  have hwg : -1 ≤ w := by rw [← hw]; exact firstI_ge _ _
  (refine Runs.of_step Orc.nothing 300 ?_; simp -implicitDefEqProofs only [BB,seval,effR_some,effD_some,← decide_not,okind,vpre,vpure,intBin,intPre,strBin,strPre,popTo,argSlots,fldV,fldAV,subCells,idxVV,idxAAV,idxSV,sliceV,sliceSV,boundV,szIs,storeOp,storeS,setRowV,eff,extV,buildV,splice,eqSV,fitsL,eqCells,eqCell,minmaxV,capV,binBV,nilCheckV,bytesV,V.cells,V.stays,Orc.nothing])
  have hsame : upd σ e ⟨3, 1, full.map vI⟩ = σ := by
    funext j
    simp only [upd]
    split
    · rename_i e'; rw [e', he]
    · rfl
  refine And.intro (fun hm => ?_) (fun hm => ?_)
  · refine ⟨_, σ, SubStore.refl σ, Wk.refl (SubStore.refl σ) _, k, full, rfl, hsame.symm, hk, Nat.le_refl _, ?_⟩
    exact (firstI_none (by rw [hw]; omega)).symm
  · have hw0 : ¬ firstI (fun n => decide (n ≤ i)) (full.take k) < 0 := by rw [hw]; omega
    obtain ⟨g1, g2, g3⟩ := firstI_some hw0
    rw [hw] at g1 g2 g3
    rw [hlk] at g1
    refine ⟨inR_i64 (by omega) (by omega), ?_⟩
    refine Runs.loop (fun m st => ∃ (u j : Nat) (cur : List Int), u < j ∧ j ≤ k ∧ m = k - j ∧ cur.length = full.length ∧ cur.take u = kept i (full.take j) ∧ (∀ q, j ≤ q → cur[q]? = full[q]?) ∧ st.σ = upd σ e ⟨3, 1, cur.map vI⟩ ∧
      st.s 0 = .own e 0 k ∧ st.s 1 = .fn 80 [.ptr c 0 0] ∧ st.s 5 = vI u ∧ st.s 6 = vI j) (k - (w.toNat + 1)) ?_ ?_
    · have hw1 : w = ((w.toNat : Nat) : Int) := by omega
      refine ⟨w.toNat, w.toNat + 1, full, by omega, by omega, rfl, rfl, ?_, fun _ _ => rfl, hsame.symm, rfl, rfl, ?_, ?_⟩
      · have hx : (full.take k)[w.toNat]? = some (full[w.toNat]'(by omega)) := by rw [List.getElem?_take, if_pos g1, List.getElem?_eq_getElem]
        have hp := g3 _ hx
        have e1 : (full.take k).take w.toNat = full.take w.toNat := by rw [List.take_take]; congr 1; omega
        rw [e1] at g2
        rw [List.take_succ_eq_append_getElem (by omega)]
        have g2' : kept i (full.take w.toNat) = full.take w.toNat := g2
        simp only [kept,List.filter_append] at g2' ⊢
        rw [g2']
        simp [hp]
      · show vI w = _; rw [← hw1]
      · show vI (w + 1) = _; rw [Int.natCast_add, ← hw1]; rfl
    · rintro m ⟨s, σ'⟩ ⟨u, j, cur, huj, hjk, rfl, hcl, hct, hcr, hσ, h0, h1, h5, h6⟩
      simp only at hσ h0 h1 h5 h6
      subst hσ
      refine Runs.mix 8 ?_
      (refine Runs.of_step Orc.nothing 300 ?_; simp -implicitDefEqProofs only [BB,seval,effR_some,effD_some,← decide_not,okind,vpre,vpure,intBin,intPre,strBin,strPre,popTo,argSlots,fldV,fldAV,subCells,idxVV,idxAAV,idxSV,sliceV,sliceSV,boundV,szIs,storeOp,storeS,setRowV,eff,extV,buildV,splice,eqSV,fitsL,eqCells,eqCell,minmaxV,capV,binBV,nilCheckV,bytesV,V.cells,V.stays,Orc.nothing,h0,h1,h5,h6])
      refine And.intro (fun hlt => ?_) (fun hge => ?_)
      · have hlt' : j < k := by omega
        have hjc : j < cur.length := by omega
        have hget : cur[j]? = some cur[j] := by simp [hjc]
        have hge : (cur.map vI)[j]? = some (vI cur[j]) := by simp [hjc]
        have b1 : (0 : Int) ≤ j := by omega
        have b2 : (j : Int) < k := by omega
        have b3 : (0 : Int) ≤ u := by omega
        have b4 : (u : Int) < k := by omega
        simp -implicitDefEqProofs only [BB,seval,effR_some,effD_some,← decide_not,okind,vpre,vpure,intBin,intPre,strBin,strPre,popTo,argSlots,fldV,fldAV,subCells,idxVV,idxAAV,idxSV,sliceV,sliceSV,boundV,szIs,storeOp,storeS,setRowV,eff,extV,buildV,splice,eqSV,fitsL,eqCells,eqCell,minmaxV,capV,binBV,nilCheckV,bytesV,V.cells,V.stays,h0,h1,h5,h6,b1,b2,hge,Int.toNat_natCast]
        refine Runs.pcall rfl rfl rfl (del1_c (i := i) (by rw [upd_ne hne]; exact hc) cur[j]) ?_
        have hgu : (cur.map vI)[u]? = some (vI (cur[u]'(by omega))) := by simp [show u < cur.length by omega]
        (refine Runs.of_step Orc.nothing 300 ?_; simp -implicitDefEqProofs only [BB,seval,effR_some,effD_some,← decide_not,okind,vpre,vpure,intBin,intPre,strBin,strPre,popTo,argSlots,fldV,fldAV,subCells,idxVV,idxAAV,idxSV,sliceV,sliceSV,boundV,szIs,storeOp,storeS,setRowV,eff,extV,buildV,splice,eqSV,fitsL,eqCells,eqCell,minmaxV,capV,binBV,nilCheckV,bytesV,V.cells,V.stays,Orc.nothing,h0,h1,h5,h6,b1,b2,b3,b4,hge,hgu,Int.toNat_natCast])
        have hfj : full[j]? = some cur[j] := by rw [← hcr j (Nat.le_refl _)]; exact hget
        have htj : full.take (j + 1) = full.take j ++ [cur[j]] := by
          have hjf : j < full.length := by omega
          rw [List.take_succ_eq_append_getElem hjf]
          congr 2
          rw [List.getElem?_eq_getElem hjf] at hfj
          simpa using hfj
        refine And.intro (fun hd => ?_) (fun hd => ?_)
        · refine ⟨inR_i64 (by omega) (by omega), inR_i64 (by omega) (by omega), _, ?_, u + 1, j + 1, cur.set u cur[j], by omega, by omega, rfl, by simpa using hcl, ?_, ?_, ?_, ?_, ?_⟩
          · omega
          · rw [htj]
            have hul : u < cur.length := by omega
            have : (cur.set u cur[j]).take (u + 1) = cur.take u ++ [cur[j]] := by
              rw [List.take_succ_eq_append_getElem (by simpa using hul), List.take_set, List.set_eq_of_length_le (by simp; omega)]
              simp
            rw [this, hct]
            simp only [kept,List.filter_append]
            congr 1
            have hd' : ¬ cur[j] ≤ i := by simpa using hd
            simp [hd']
          · intro q hq
            rw [List.getElem?_set_ne (by omega)]
            exact hcr q (by omega)
          · simp
          · simp
          · simp
        · refine ⟨inR_i64 (by omega) (by omega), _, ?_, u, j + 1, cur, by omega, by omega, rfl, hcl, ?_, fun q hq => hcr q (by omega), rfl, ?_⟩
          · omega
          · rw [htj, hct]
            simp only [kept,List.filter_append]
            have hd' : cur[j] ≤ i := by simpa using hd
            simp [hd']
          · simp
      · have hjk' : j = k := by omega
        subst hjk'
        have b3 : (0 : Int) ≤ u := by omega
        have b4 : (u : Int) ≤ j := by omega
        simp -implicitDefEqProofs only [BB,seval,effR_some,effD_some,← decide_not,okind,vpre,vpure,intBin,intPre,strBin,strPre,popTo,argSlots,fldV,fldAV,subCells,idxVV,idxAAV,idxSV,sliceV,sliceSV,boundV,szIs,storeOp,storeS,setRowV,eff,extV,buildV,splice,eqSV,fitsL,eqCells,eqCell,minmaxV,capV,binBV,nilCheckV,bytesV,V.cells,V.stays,h0,h1,h5,h6,b3,b4,Int.le_refl,Int.toNat_natCast,Nat.zero_add]
        refine Runs.clear (id := e) (off := u) (len := j - u) (ob := ⟨3, 1, cur.map vI⟩) rfl rfl rfl upd_same rfl (by simp; omega) ?_
        (refine Runs.of_step Orc.nothing 300 ?_; simp -implicitDefEqProofs only [BB,seval,effR_some,effD_some,← decide_not,okind,vpre,vpure,intBin,intPre,strBin,strPre,popTo,argSlots,fldV,fldAV,subCells,idxVV,idxAAV,idxSV,sliceV,sliceSV,boundV,szIs,storeOp,storeS,setRowV,eff,extV,buildV,splice,eqSV,fitsL,eqCells,eqCell,minmaxV,capV,binBV,nilCheckV,bytesV,V.cells,V.stays,Orc.nothing,h0,h1,h5,h6,b3,b4,Int.le_refl,Int.toNat_natCast,Nat.zero_add,Nat.sub_zero])
        refine ⟨_, _, SubStore.refl _, Wk.refl (SubStore.refl _) _, u, cur.take u ++ List.replicate (j - u) 0 ++ cur.drop (u + (j - u)), by simp, ?_, ?_, ?_, ?_⟩
        · simp [List.map_take, List.map_drop]
        · simp; omega
        · simp; omega
        · rw [List.append_assoc, List.take_append_of_le_length (by simp; omega), List.take_take, Nat.min_self, hct]
end Go.Vc
namespace Go.Vc
open Go.Proofs
theorem Reads.nils (σ : Store) : Reads σ 1 false .nils [] := ⟨rfl, fun i v h => by simp at h⟩
theorem delete_nil {σ : Store} {c : Nat} {i : Int} (hc : σ c = some ⟨3, 1, [vI i]⟩) : Contract Tryd.prog 79 [.nils, .fn 80 [.ptr c 0 0]] σ fun r σ' => r = .nils ∧ σ' = σ := by
  refine Contract.of_runs Tryd.func79 e79 k79 (by simp [c79]) ?_
  refine Runs.mix 8 ?_
  (refine Runs.of_step Orc.nothing 300 ?_; simp -implicitDefEqProofs only [BB,seval,effR_some,effD_some,← decide_not,okind,vpre,vpure,intBin,intPre,strBin,strPre,popTo,argSlots,fldV,fldAV,subCells,idxVV,idxAAV,idxSV,sliceV,sliceSV,boundV,szIs,storeOp,storeS,setRowV,eff,extV,buildV,splice,eqSV,fitsL,eqCells,eqCell,minmaxV,capV,binBV,nilCheckV,bytesV,V.cells,V.stays,Orc.nothing,c79])
  refine Runs.pcall rfl rfl rfl (indexFunc_c (l := []) (p := fun n => decide (n ≤ i)) (Reads.nils σ) (by simp) (fun n _ => del1_c hc n)) ?_
  (refine Runs.of_step Orc.nothing 300 ?_; simp -implicitDefEqProofs only [BB,seval,effR_some,effD_some,← decide_not,okind,vpre,vpure,intBin,intPre,strBin,strPre,popTo,argSlots,fldV,fldAV,subCells,idxVV,idxAAV,idxSV,sliceV,sliceSV,boundV,szIs,storeOp,storeS,setRowV,eff,extV,buildV,splice,eqSV,fitsL,eqCells,eqCell,minmaxV,capV,binBV,nilCheckV,bytesV,V.cells,V.stays,Orc.nothing,firstI])
  exact RetV.same rfl
theorem sumOf_in {times n : Int} (h0 : 0 ≤ n) (t0 : 0 ≤ times) : 0 ≤ sumOf times n ∧ sumOf times n ≤ 1099511627777 := by
  unfold sumOf
  split
  · rename_i h
    refine ⟨Int.mul_nonneg h0 t0, ?_⟩
    rcases h with h | h
    · subst h; simp
    · by_cases hn : n = 0
      · subst hn; simp
      · have := Int.mul_le_of_le_ediv (by omega : 0 < n) h
        rw [Int.mul_comm]; omega
  · omega
def sumsRow (s : Sm) (ends : V) : Ob := ⟨79, 5, [.agg [vI s.depth, vI s.pieces, vI s.nodes, vI s.heights, ends]]⟩
set_option maxRecDepth 100000 in
theorem high_c {σ : Store} {c : Nat} {s : Sm} {ends sv : V} {times : Int} {l : List Int} (hc : σ c = some (sumsRow s ends)) (hr : ∀ ob, Reads (upd σ c ob) 1 false sv (l.map vI)) (hl : l.length ≤ 200000000000000)
    (hn : ∀ n ∈ l, 0 ≤ n ∧ n ≤ mx) (ht : 0 ≤ times ∧ times ≤ 200000000000000) (hh : 0 ≤ s.heights ∧ s.heights ≤ 1099511627777) (hends : ends.cells = [ends]) :
    Contract Tryd.prog 81 [.ptr c 0 0, vI times, sv] σ fun r σ' => r = .tup [] ∧ σ' = upd σ c (sumsRow { s with heights := highS times s.heights l } ends) := by
  have hlen : lenV false sv = some (vI (l.length : Int)) := by simpa using (hr ⟨0, 0, []⟩).1
  have hsame : upd σ c (sumsRow s ends) = σ := by
    funext j
    simp only [upd]
    split
    · rename_i e'; rw [e', hc]
    · rfl
  refine Contract.of_runs Tryd.func81 e81 k81 (by simp [c81]) ?_
  refine Runs.mix 9 ?_
  (refine Runs.of_step Orc.nothing 300 ?_; simp -implicitDefEqProofs only [BB,seval,effR_some,effD_some,← decide_not,okind,vpre,vpure,intBin,intPre,strBin,strPre,popTo,argSlots,fldV,fldAV,subCells,idxVV,idxAAV,idxSV,sliceV,sliceSV,boundV,szIs,storeOp,storeS,setRowV,eff,extV,buildV,splice,eqSV,fitsL,eqCells,eqCell,minmaxV,capV,binBV,nilCheckV,bytesV,V.cells,V.stays,Orc.nothing,c81,hlen])
  refine Runs.loop (fun m st => ∃ (i : Nat) (h : Int), i ≤ l.length ∧ m = l.length - i ∧ highS times s.heights l = highS times h (l.drop i) ∧ (0 ≤ h ∧ h ≤ 1099511627777) ∧ st.σ = upd σ c (sumsRow { s with heights := h } ends) ∧
    st.s 0 = .ptr c 0 0 ∧ st.s 1 = vI times ∧ st.s 9 = sv ∧ st.s 10 = vI l.length ∧ st.s 11 = vI i) l.length ?_ ?_
  · exact ⟨0, s.heights, by omega, by omega, rfl, hh, hsame.symm, rfl, rfl, rfl, rfl, rfl⟩
  · rintro m ⟨s', σ'⟩ ⟨i, h, hi, rfl, hp, hhh, hσ, h0, h1, h9, h10, h11⟩
    simp only at h0 h1 h9 h10 h11 hσ
    subst hσ
    refine Runs.mix 9 ?_
    (refine Runs.of_step Orc.nothing 300 ?_; simp -implicitDefEqProofs only [BB,seval,effR_some,effD_some,← decide_not,okind,vpre,vpure,intBin,intPre,strBin,strPre,popTo,argSlots,fldV,fldAV,subCells,idxVV,idxAAV,idxSV,sliceV,sliceSV,boundV,szIs,storeOp,storeS,setRowV,eff,extV,buildV,splice,eqSV,fitsL,eqCells,eqCell,minmaxV,capV,binBV,nilCheckV,bytesV,V.cells,V.stays,Orc.nothing,h0,h1,h9,h10,h11])
    refine And.intro (fun hlt => ?_) (fun hge => ?_)
    · have hlt' : i < l.length := by omega
      have hd : l.drop i = l[i] :: l.drop (i + 1) := List.drop_eq_getElem_cons hlt'
      obtain ⟨pp, e1, e2⟩ := (hr (sumsRow { s with heights := h } ends)).2 i (vI l[i]) (by simp [hlt'])
      have hni := hn _ (List.getElem_mem hlt')
      rw [hd, highS] at hp
      generalize hne : l[i] = n at *
      have hsum := sumOf_in (n := n) hni.1 ht.1
      simp only [sumsRow] at e1 e2
      simp only [mx] at hni
      have hq : (1099511627776 : Int).tdiv n = 1099511627776 / n := Int.tdiv_eq_ediv_of_nonneg (by omega)
      by_cases hz : n = 0
      · have hs0 : sumOf times n = n * times := by unfold sumOf; rw [if_pos (.inl hz)]
        rw [hs0] at hp hsum
        simp -implicitDefEqProofs only [BB,seval,effR_some,effD_some,← decide_not,okind,vpre,vpure,intBin,intPre,strBin,strPre,popTo,argSlots,fldV,fldAV,subCells,idxVV,idxAAV,idxSV,sliceV,sliceSV,boundV,szIs,storeOp,storeS,setRowV,eff,extV,buildV,splice,eqSV,fitsL,eqCells,eqCell,minmaxV,capV,binBV,nilCheckV,bytesV,V.cells,V.stays,e1,e2,sumsRow,hz,h0,h1,h9,h10,h11]
        rw [hz] at hp hsum
        simp only [Int.zero_mul,Int.add_zero] at hp ⊢
        refine ⟨inR_i64 (by omega) (by omega), inR_i64 (by omega) (by omega), inR_i64 (by omega) (by omega), _, ?_, i + 1, h, by omega, rfl, ?_, hhh, ?_, by simp⟩
        · omega
        · rw [hp, Int.min_eq_left hhh.2]
        · rw [if_neg (by omega)]
      · simp -implicitDefEqProofs only [BB,seval,effR_some,effD_some,← decide_not,okind,vpre,vpure,intBin,intPre,strBin,strPre,popTo,argSlots,fldV,fldAV,subCells,idxVV,idxAAV,idxSV,sliceV,sliceSV,boundV,szIs,storeOp,storeS,setRowV,eff,extV,buildV,splice,eqSV,fitsL,eqCells,eqCell,minmaxV,capV,binBV,nilCheckV,bytesV,V.cells,V.stays,e1,e2,sumsRow,hz,h0,h1,h9,h10,h11,hq]
        have hdiv : 0 ≤ 1099511627776 / n ∧ 1099511627776 / n ≤ 1099511627776 := ⟨Int.ediv_nonneg (by omega) hni.1, Int.ediv_le_self _ (by omega)⟩
        refine ⟨inR_i64 (by omega) (by omega), fun hle => ?_, fun hgt => ?_⟩
        · have hs0 : sumOf times n = n * times := by unfold sumOf; rw [if_pos (.inr hle)]
          rw [hs0] at hp hsum
          refine ⟨inR_i64 (by omega) (by omega), inR_i64 (by omega) (by omega), inR_i64 (by omega) (by omega), _, ?_, i + 1, min (h + n * times) 1099511627777, by omega, rfl, hp, by omega, ?_, by simp⟩
          · omega
          · rw [show (if 1099511627777 < h + n * times then 1099511627777 else h + n * times) = min (h + n * times) 1099511627777 by split <;> omega]
        · have hs0 : sumOf times n = 1099511627777 := by unfold sumOf; rw [if_neg (by omega)]
          rw [hs0] at hp hsum
          refine ⟨inR_i64 (by omega) (by omega), inR_i64 (by omega) (by omega), _, ?_, i + 1, min (h + 1099511627777) 1099511627777, by omega, rfl, hp, by omega, ?_, by simp⟩
          · omega
          · rw [show (if 1099511627777 < h + 1099511627777 then 1099511627777 else h + 1099511627777) = min (h + 1099511627777) 1099511627777 by split <;> omega]
    · have : i = l.length := by omega
      refine ⟨_, _, SubStore.refl _, Wk.refl (SubStore.refl _) _, rfl, ?_⟩
      rw [hp, this, List.drop_length]; rfl
end Go.Vc
namespace Go.Vc
open Go.Proofs
theorem effD_app {P : Program} {n : Nat} {Q : St → Prop} {k : List It} {O : Orc P} {f : Nat} {d : Option Nat} {l : List VIns} {v : Nat → V} {ob : Ob} {s : Nat → V} {σ : Store} {e : Nat}
    (h : ∀ id σ', SubStore (del σ e) σ' → σ' id = some ob → σ id = none → step P O n f (.d l k) ⟨putO s d (v id), σ'⟩ Q) :
    effD P O n f l k d ⟨s, σ⟩ Q (some fun id => (v id, Vc.upd (del σ e) id ob)) := by
  rw [effD_some]
  refine fun id hid => h id _ ((SubStore.refl _).upd ?_) upd_same hid
  by_cases e' : id = e
  · simp [del, e']
  · rw [del_ne e']; exact hid
def EndsV (K σ : Store) (v : V) (ends : List Int) (B : Nat) : Prop :=
  (v = .nils ∧ ends = []) ∨ ∃ (e k : Nat) (full : List Int), v = .own e 0 k ∧ σ e = some ⟨3, 1, full.map vI⟩ ∧ K e = none ∧ k ≤ full.length ∧ full.length ≤ B ∧ full.take k = ends
theorem del_c {K σ : Store} {v : V} {ends : List Int} {B c : Nat} {i : Int} (hB : B ≤ 1000000000000) (h : EndsV K σ v ends B) (hK : SubStore K σ) (hc : K c = some ⟨3, 1, [vI i]⟩) :
    Contract Tryd.prog 79 [v, .fn 80 [.ptr c 0 0]] σ fun r σ' => SubStore K σ' ∧ EndsV K σ' r (kept i ends) B := by
  rcases h with ⟨rfl, rfl⟩ | ⟨e, k, full, rfl, h1, h2, h3, h4, rfl⟩
  · refine (delete_nil (hK _ _ hc)).mono ?_
    rintro r σ' ⟨rfl, rfl⟩
    exact ⟨hK, .inl ⟨rfl, rfl⟩⟩
  · have hne : c ≠ e := by rintro rfl; rw [h2] at hc; cases hc
    refine (delete_c h1 (hK _ _ hc) hne h3 (by omega)).mono ?_
    rintro r σ' ⟨k', full', rfl, rfl, g1, g2, g3⟩
    exact ⟨hK.updK h2, .inr ⟨e, k', full', rfl, upd_same, h2, g1, by omega, g3⟩⟩
theorem SubStore.putK {K σ : Store} {i : Nat} {o : Ob} (h : SubStore K σ) (hi : σ i = some o) : SubStore (Vc.upd K i o) σ := fun j x hx => by
  by_cases e : j = i
  · subst e; rw [upd_same] at hx; rw [hi]; exact hx
  · rw [upd_ne e] at hx; exact h j x hx
theorem EndsV.new {K σ σ' : Store} {v : V} {ends : List Int} {B id : Nat} {o : Ob} (h : EndsV K σ v ends B) (hs : SubStore σ σ') (hid : σ id = none) : EndsV (upd K id o) σ' v ends B := by
  rcases h with h | ⟨e, k, full, h0, h1, h2, h3⟩
  · exact .inl h
  · exact .inr ⟨e, k, full, h0, hs _ _ h1, by rw [upd_ne (ne_new h1 hid)]; exact h2, h3⟩
theorem EndsV.less {K K' σ : Store} {v : V} {ends : List Int} {B : Nat} (h : EndsV K' σ v ends B) (hs : SubStore K K') : EndsV K σ v ends B := by
  rcases h with h | ⟨e, k, full, h0, h1, h2, h3⟩
  · exact .inl h
  · exact .inr ⟨e, k, full, h0, h1, hs.none h2, h3⟩
set_option maxRecDepth 100000 in
theorem node_c {K σ : Store} {v : V} {ends : List Int} {B c i : Nat} {x : Nd} {s : Sm} (hK : SubStore K σ) (hKc : K c = none) (hc : σ c = some (sumsRow s v)) (hE : ∀ o, EndsV (upd K c o) σ v ends B) (hB : B ≤ 1000000000)
    (hi : i ≤ 10000) (hs : s.fine i) (hsn : s.nodes = i) (hx : x.ok = true) (hw : x.words.length ≤ 200000000000000) (hsz : 1 ≤ x.size ∧ x.size ≤ 1000000000) :
    Contract Tryd.prog 48 [.ptr c 0 0, vI i, encN x] σ fun r σ' => r = .tup [] ∧ SubStore K σ' ∧ ∃ v', σ' c = some (sumsRow (nodeS i x s ends).1 v') ∧ ∀ o, EndsV (upd K c o) σ' v' (nodeS i x s ends).2 (B + 1) := by
  refine Contract.of_runs Tryd.func48 e48 k48 (by simp [c48]) ?_
  refine Runs.mix 7 ?_
  (refine Runs.of_step Orc.nothing 300 ?_; simp -implicitDefEqProofs only [BB,seval,← decide_not,okind,vpre,vpure,intBin,intPre,strBin,strPre,popTo,argSlots,fldV,fldAV,subCells,idxVV,idxAAV,idxSV,sliceV,sliceSV,boundV,szIs,storeOp,storeS,setRowV,eff,extV,buildV,splice,eqSV,fitsL,eqCells,eqCell,minmaxV,capV,binBV,nilCheckV,bytesV,V.cells,V.stays,Orc.nothing,c48,encN,Nd.cells])
  refine effR_new fun id4 σ1 s1 a4 f4 => ?_
  have hc1 := s1 _ _ hc
  have n4c := ne_new hc f4
  simp -implicitDefEqProofs only [BB,seval,← decide_not,okind,vpre,vpure,intBin,intPre,strBin,strPre,popTo,argSlots,fldV,fldAV,subCells,idxVV,idxAAV,idxSV,sliceV,sliceSV,boundV,szIs,storeOp,storeS,setRowV,eff,extV,buildV,splice,eqSV,fitsL,eqCells,eqCell,minmaxV,capV,binBV,nilCheckV,bytesV,V.cells,V.stays,a4]
  refine effR_new fun id5 σ2 s2 a5 f5 => ?_
  have hc2 := s2 _ _ hc1
  have n5c := ne_new hc1 f5
  have n54 := ne_new a4 f5
  have a4 := s2 _ _ a4
  have hK2 := (hK.trans s1).trans s2
  have k4 : K id4 = none := hK.none f4
  have k5 : K id5 = none := (hK.trans s1).none f5
  simp -implicitDefEqProofs only [BB,seval,← decide_not,okind,vpre,vpure,intBin,intPre,strBin,strPre,popTo,argSlots,fldV,fldAV,subCells,idxVV,idxAAV,idxSV,sliceV,sliceSV,boundV,szIs,storeOp,storeS,setRowV,eff,extV,buildV,splice,eqSV,fitsL,eqCells,eqCell,minmaxV,capV,binBV,nilCheckV,bytesV,V.cells,V.stays,hc2,sumsRow,a4,a5]
  have hK' : SubStore (upd (upd (upd K c (sumsRow s v)) id4 ⟨3, 1, [vI i]⟩) id5 ⟨37, 20, [encN x]⟩) σ2 := ((hK2.putK hc2).putK a4).putK a5
  have hE' : EndsV (upd (upd (upd K c (sumsRow s v)) id4 ⟨3, 1, [vI i]⟩) id5 ⟨37, 20, [encN x]⟩) σ2 v ends B := ((hE _).new s1 f4).new s2 f5
  refine Runs.call rfl rfl rfl (del_c (by omega) hE' hK' (by rw [upd_ne n54, upd_same])) ?_
  rintro r σ3 ⟨hK3, hE3⟩
  have hc3 := hK3 c _ (by rw [upd_ne n5c, upd_ne n4c, upd_same])
  have a4 := hK3 id4 _ (by rw [upd_ne n54, upd_same])
  have a5 := hK3 id5 _ upd_same
  simp only [encN,Nd.cells] at a5
  simp only [sumsRow] at hc3
  have hKK := (((SubStore.refl K).updK hKc (o := sumsRow s v)).updK k4 (o := ⟨3, 1, [vI i]⟩)).updK k5 (o := ⟨37, 20, [encN x]⟩)
  have h3 := hKK.trans hK3
  have hsr : inR .i64 (s.nodes + 1) := inR_i64 (by omega) (by omega)
  obtain ⟨p1, p2, p3, p4, p5, p6⟩ := ok_numbers hx
  obtain ⟨f1, f2, f3⟩ := hs
  rcases hE3 with ⟨rfl, hk0⟩ | ⟨e, k, full, rfl, he, hKe, hk, hfl, hk0⟩
  · by_cases hk1 : x.kind = 1
    · (refine Runs.of_step Orc.nothing 300 ?_; simp -implicitDefEqProofs only [BB,seval,← decide_not,okind,vpre,vpure,intBin,intPre,strBin,strPre,popTo,argSlots,fldV,fldAV,subCells,idxVV,idxAAV,idxSV,sliceV,sliceSV,boundV,szIs,storeOp,storeS,setRowV,eff,extV,buildV,splice,eqSV,fitsL,eqCells,eqCell,minmaxV,capV,binBV,nilCheckV,bytesV,V.cells,V.stays,Orc.nothing,a4,a5,hc3,upd_ne n4c.symm,upd_ne n5c.symm,hk1])
      refine ⟨hsr, inR_i64 (by omega) (by omega), ?_⟩
      refine effD_new fun id8 σ4 s4 a8 f8 => ?_
      have hc4 := s4 c _ upd_same
      have a4 := s4 id4 _ (by rw [upd_ne n4c.symm]; exact a4)
      have a5 := s4 id5 _ (by rw [upd_ne n5c.symm]; exact a5)
      have hs8 : ∀ σ, σ id8 = some ⟨3, 1, [.int .i64 (i + x.size)]⟩ → srcRows σ 1 (.own id8 0 1) = some [.int .i64 (i + x.size)] := by
        intro σ hσ
        simp only [srcRows,hσ]
        rw [if_pos (by simp)]
        simp
      have hd : ∀ σ, dstRows σ 3 1 .nils = some ([], none) := fun _ => rfl
      simp -implicitDefEqProofs only [BB,seval,← decide_not,okind,vpre,vpure,intBin,intPre,strBin,strPre,popTo,argSlots,fldV,fldAV,subCells,idxVV,idxAAV,idxSV,sliceV,sliceSV,boundV,szIs,storeOp,storeS,setRowV,eff,extV,buildV,splice,eqSV,fitsL,eqCells,eqCell,minmaxV,capV,binBV,nilCheckV,bytesV,V.cells,V.stays,hs8,a8,hd,delO,Nat.reduceLeDiff]
      refine effD_new fun id9 σ5 s5 a9 f9 => ?_
      have hc5 := s5 c _ hc4
      have a4 := s5 id4 _ a4
      have a5 := s5 id5 _ a5
      have n9c : id9 ≠ c := by rintro rfl; rw [hc4] at f9; cases f9
      have n95 : id9 ≠ id5 := by rintro rfl; rw [s4 id9 _ (by rw [upd_ne n5c.symm]; exact hK3 id9 _ upd_same)] at f9; cases f9
      simp -implicitDefEqProofs only [BB,seval,← decide_not,okind,vpre,vpure,intBin,intPre,strBin,strPre,popTo,argSlots,fldV,fldAV,subCells,idxVV,idxAAV,idxSV,sliceV,sliceSV,boundV,szIs,storeOp,storeS,setRowV,eff,extV,buildV,splice,eqSV,fitsL,eqCells,eqCell,minmaxV,capV,binBV,nilCheckV,bytesV,V.cells,V.stays,hc5,a4,a5,a9,upd_ne n5c.symm,upd_ne n9c]
      refine effR_new fun id6 σ6 s6 a6 f6 => ?_
      have hc6 := s6 c _ upd_same
      have a9 := s6 id9 _ (by rw [upd_ne n9c]; exact a9)
      have n6c : id6 ≠ c := by rintro rfl; rw [hc6] at a6; simp at a6
      have n69 : id6 ≠ id9 := by rintro rfl; rw [a9] at a6; simp at a6
      simp -implicitDefEqProofs only [BB,seval,← decide_not,okind,vpre,vpure,intBin,intPre,strBin,strPre,popTo,argSlots,fldV,fldAV,subCells,idxVV,idxAAV,idxSV,sliceV,sliceSV,boundV,szIs,storeOp,storeS,setRowV,eff,extV,buildV,splice,eqSV,fitsL,eqCells,eqCell,minmaxV,capV,binBV,nilCheckV,bytesV,V.cells,V.stays,a6]
      refine effR_new fun id84 σ7 s7 a84 f84 => ?_
      have hc7 := s7 c _ (by rw [upd_ne n6c.symm]; exact hc6)
      have a9 := s7 id9 _ (by rw [upd_ne n69.symm]; exact a9)
      have n84c : id84 ≠ c := by rintro rfl; rw [hc7] at a84; simp at a84
      simp -implicitDefEqProofs only [BB,seval,← decide_not,okind,vpre,vpure,intBin,intPre,strBin,strPre,popTo,argSlots,fldV,fldAV,subCells,idxVV,idxAAV,idxSV,sliceV,sliceSV,boundV,szIs,storeOp,storeS,setRowV,eff,extV,buildV,splice,eqSV,fitsL,eqCells,eqCell,minmaxV,capV,binBV,nilCheckV,bytesV,V.cells,V.stays]
      have h4 := (h3.updK hKc).trans s4
      have h5 := h4.trans s5
      have k9 : K id9 = none := h4.none f9
      have h6' := fun o => h5.updK hKc (o := o)
      have k6 : K id6 = none := (h6' _).none f6
      have h7 := (((h6' _).trans s6).updK k6).trans s7
      obtain ⟨q1, q2, q3, q4, q5⟩ := p6 hk1
      have hl5 : ∀ n ∈ [x.st.top, x.st.bottom, x.st.padTop, x.st.padBottom, x.st.head], 0 ≤ n ∧ n ≤ mx := by
        intro n hn
        simp only [List.mem_cons,List.not_mem_nil,or_false] at hn
        rcases hn with rfl | rfl | rfl | rfl | rfl <;> assumption
      refine Runs.call rfl rfl rfl (high_c (s := ⟨if (1 : Int) > s.depth then 1 else s.depth, s.pieces, s.nodes + 1, s.heights⟩) (l := [x.st.top, x.st.bottom, x.st.padTop, x.st.padBottom, x.st.head]) (times := 1) hc7
        (fun ob => Reads.own (off := 0) (len := 5) ((upd_ne n84c).trans a84) rfl (by simp) (fun r hr => by simp at hr; rcases hr with rfl | rfl | rfl | rfl | rfl <;> rfl)) (by simp) hl5 (by omega) f3 rfl) ?_
      rintro r σ8 ⟨rfl, rfl⟩
      (refine Runs.of_step Orc.nothing 300 ?_; simp -implicitDefEqProofs only [BB,seval,effR_some,effD_some,← decide_not,okind,vpre,vpure,intBin,intPre,strBin,strPre,popTo,argSlots,fldV,fldAV,subCells,idxVV,idxAAV,idxSV,sliceV,sliceSV,boundV,szIs,storeOp,storeS,setRowV,eff,extV,buildV,splice,eqSV,fitsL,eqCells,eqCell,minmaxV,capV,binBV,nilCheckV,bytesV,V.cells,V.stays,Orc.nothing])
      refine ⟨_, _, SubStore.refl _, Wk.refl (SubStore.refl _) _, rfl, h7.updK hKc, .own id9 0 1, ?_, fun o => .inr ⟨id9, 1, [i + x.size], rfl, (upd_ne n9c).trans a9, upd_none.2 ⟨n9c, k9⟩, by simp, by simp, ?_⟩⟩
      · have e : (if (1 : Int) > s.depth then 1 else s.depth) = max s.depth 1 := by split <;> omega
        rw [upd_same, e]
        simp [nodeS, hk1, hk0, sumsRow]
      · simp [nodeS, hk1, hk0]
    · by_cases hk2 : x.kind = 2
      · (refine Runs.of_step Orc.nothing 300 ?_; simp -implicitDefEqProofs only [BB,seval,← decide_not,okind,vpre,vpure,intBin,intPre,strBin,strPre,popTo,argSlots,fldV,fldAV,subCells,idxVV,idxAAV,idxSV,sliceV,sliceSV,boundV,szIs,storeOp,storeS,setRowV,eff,extV,buildV,splice,eqSV,fitsL,eqCells,eqCell,minmaxV,capV,binBV,nilCheckV,bytesV,V.cells,V.stays,Orc.nothing,a4,a5,hc3,upd_ne n4c.symm,upd_ne n5c.symm,hk2,lenV_encI])
        refine ⟨hsr, inR_i64 (by omega) (by omega), ?_⟩
        refine effR_new fun id7 σ7 s7 a7 f7 => ?_
        have hc7 := s7 c _ upd_same
        have n7c : id7 ≠ c := by rintro rfl; rw [hc7] at a7; simp at a7
        simp -implicitDefEqProofs only [BB,seval,← decide_not,okind,vpre,vpure,intBin,intPre,strBin,strPre,popTo,argSlots,fldV,fldAV,subCells,idxVV,idxAAV,idxSV,sliceV,sliceSV,boundV,szIs,storeOp,storeS,setRowV,eff,extV,buildV,splice,eqSV,fitsL,eqCells,eqCell,minmaxV,capV,binBV,nilCheckV,bytesV,V.cells,V.stays]
        have h7 := (h3.updK hKc).trans s7
        refine Runs.call rfl rfl rfl (high_c (s := ⟨s.depth, s.pieces + x.words.length, s.nodes + 1, s.heights⟩) (l := [x.line]) (times := x.words.length) hc7
          (fun ob => Reads.own (off := 0) (len := 1) ((upd_ne n7c).trans a7) rfl (by simp) (fun r hr => by simp at hr; rcases hr with rfl; rfl)) (by simp) (by intro n hn; simp at hn; subst hn; exact ⟨p2, p3⟩) (by omega) f3 rfl) ?_
        rintro r σ8 ⟨rfl, rfl⟩
        (refine Runs.of_step Orc.nothing 300 ?_; simp -implicitDefEqProofs only [BB,seval,effR_some,effD_some,← decide_not,okind,vpre,vpure,intBin,intPre,strBin,strPre,popTo,argSlots,fldV,fldAV,subCells,idxVV,idxAAV,idxSV,sliceV,sliceSV,boundV,szIs,storeOp,storeS,setRowV,eff,extV,buildV,splice,eqSV,fitsL,eqCells,eqCell,minmaxV,capV,binBV,nilCheckV,bytesV,V.cells,V.stays,Orc.nothing])
        refine ⟨_, _, SubStore.refl _, Wk.refl (SubStore.refl _) _, rfl, h7.updK hKc, _, upd_same.trans (by simp [nodeS, hk2, sumsRow]; rfl), fun o => ?_⟩
        have : (nodeS i x s ends).2 = kept i ends := by simp [nodeS, hk2]
        rw [this]
        exact .inl ⟨rfl, hk0⟩
      · have h4or := p1
        (refine Runs.of_step Orc.nothing 300 ?_; simp -implicitDefEqProofs only [BB,seval,← decide_not,okind,vpre,vpure,intBin,intPre,strBin,strPre,popTo,argSlots,fldV,fldAV,subCells,idxVV,idxAAV,idxSV,sliceV,sliceSV,boundV,szIs,storeOp,storeS,setRowV,eff,extV,buildV,splice,eqSV,fitsL,eqCells,eqCell,minmaxV,capV,binBV,nilCheckV,bytesV,V.cells,V.stays,Orc.nothing,a4,a5,hc3,upd_ne n4c.symm,upd_ne n5c.symm,hk1,hk2,lenV_encI])
        refine ⟨hsr, inR_i64 (by omega) (by omega), ?_⟩
        refine effR_new fun id7 σ7 s7 a7 f7 => ?_
        have hc7 := s7 c _ upd_same
        have n7c : id7 ≠ c := by rintro rfl; rw [hc7] at a7; simp at a7
        simp -implicitDefEqProofs only [BB,seval,← decide_not,okind,vpre,vpure,intBin,intPre,strBin,strPre,popTo,argSlots,fldV,fldAV,subCells,idxVV,idxAAV,idxSV,sliceV,sliceSV,boundV,szIs,storeOp,storeS,setRowV,eff,extV,buildV,splice,eqSV,fitsL,eqCells,eqCell,minmaxV,capV,binBV,nilCheckV,bytesV,V.cells,V.stays]
        have h7 := (h3.updK hKc).trans s7
        refine Runs.call rfl rfl rfl (high_c (s := ⟨s.depth, s.pieces + 1, s.nodes + 1, s.heights⟩) (l := [x.h]) (times := 1) hc7
          (fun ob => Reads.own (off := 0) (len := 1) ((upd_ne n7c).trans a7) rfl (by simp) (fun r hr => by simp at hr; rcases hr with rfl; rfl)) (by simp) (by intro n hn; simp at hn; subst hn; exact ⟨p4, p5⟩) (by omega) f3 rfl) ?_
        rintro r σ8 ⟨rfl, rfl⟩
        (refine Runs.of_step Orc.nothing 300 ?_; simp -implicitDefEqProofs only [BB,seval,effR_some,effD_some,← decide_not,okind,vpre,vpure,intBin,intPre,strBin,strPre,popTo,argSlots,fldV,fldAV,subCells,idxVV,idxAAV,idxSV,sliceV,sliceSV,boundV,szIs,storeOp,storeS,setRowV,eff,extV,buildV,splice,eqSV,fitsL,eqCells,eqCell,minmaxV,capV,binBV,nilCheckV,bytesV,V.cells,V.stays,Orc.nothing])
        refine ⟨_, _, SubStore.refl _, Wk.refl (SubStore.refl _) _, rfl, h7.updK hKc, _, upd_same.trans (by simp [nodeS, hk1, hk2, sumsRow]; rfl), fun o => ?_⟩
        have : (nodeS i x s ends).2 = kept i ends := by simp [nodeS, hk1, hk2]
        rw [this]
        exact .inl ⟨rfl, hk0⟩
  · have hec : e ≠ c := fun e' => by rw [e', upd_ne n5c, upd_ne n4c, upd_same] at hKe; cases hKe
    have he4 : e ≠ id4 := fun e' => by rw [e', upd_ne n54, upd_same] at hKe; cases hKe
    have he5 : e ≠ id5 := fun e' => by rw [e', upd_same] at hKe; cases hKe
    have hKe0 : K e = none := hKK.none hKe
    have hlk : (full.take k).length = k := by simp; omega
    by_cases hk1 : x.kind = 1
    · (refine Runs.of_step Orc.nothing 300 ?_; simp -implicitDefEqProofs only [BB,seval,← decide_not,okind,vpre,vpure,intBin,intPre,strBin,strPre,popTo,argSlots,fldV,fldAV,subCells,idxVV,idxAAV,idxSV,sliceV,sliceSV,boundV,szIs,storeOp,storeS,setRowV,eff,extV,buildV,splice,eqSV,fitsL,eqCells,eqCell,minmaxV,capV,binBV,nilCheckV,bytesV,V.cells,V.stays,Orc.nothing,a4,a5,hc3,upd_ne n4c.symm,upd_ne n5c.symm,hk1])
      refine ⟨hsr, inR_i64 (by omega) (by omega), ?_⟩
      refine effD_new fun id8 σ4 s4 a8 f8 => ?_
      have hc4 := s4 c _ upd_same
      have a4 := s4 id4 _ (by rw [upd_ne n4c.symm]; exact a4)
      have a5 := s4 id5 _ (by rw [upd_ne n5c.symm]; exact a5)
      have hs8 : ∀ σ, σ id8 = some ⟨3, 1, [.int .i64 (i + x.size)]⟩ → srcRows σ 1 (.own id8 0 1) = some [.int .i64 (i + x.size)] := by
        intro σ hσ
        simp only [srcRows,hσ]
        rw [if_pos (by simp)]
        simp
      have he4' := s4 e _ (by rw [upd_ne hec]; exact he)
      have hd : ∀ σ, σ e = some ⟨3, 1, full.map vI⟩ → dstRows σ 3 1 (.own e 0 k) = some ((full.take k).map vI, some e) := by
        intro σ hσ
        simp only [dstRows,hσ]
        rw [if_pos ⟨trivial, trivial, trivial, by simpa using hk⟩, List.map_take]
      have hlm : ((full.take k).map vI).length = k := by simpa using hlk
      have hbb : (k + 1) * 9 ≤ 140737488355328 := by omega
      simp -implicitDefEqProofs only [BB,seval,← decide_not,okind,vpre,vpure,intBin,intPre,strBin,strPre,popTo,argSlots,fldV,fldAV,subCells,idxVV,idxAAV,idxSV,sliceV,sliceSV,boundV,szIs,storeOp,storeS,setRowV,eff,extV,buildV,splice,eqSV,fitsL,eqCells,eqCell,minmaxV,capV,binBV,nilCheckV,bytesV,V.cells,V.stays,hs8,a8,hd,he4',delO,hlm,hbb]
      refine effD_app fun id9 σ5 s5 a9 f9 => ?_
      have hc5 := s5 c _ (by rw [del_ne hec.symm]; exact hc4)
      have a4 := s5 id4 _ (by rw [del_ne he4.symm]; exact a4)
      have a5 := s5 id5 _ (by rw [del_ne he5.symm]; exact a5)
      have n9c : id9 ≠ c := by rintro rfl; rw [hc4] at f9; cases f9
      have n95 : id9 ≠ id5 := by rintro rfl; rw [s4 id9 _ (by rw [upd_ne n5c.symm]; exact hK3 id9 _ upd_same)] at f9; cases f9
      simp -implicitDefEqProofs only [BB,seval,← decide_not,okind,vpre,vpure,intBin,intPre,strBin,strPre,popTo,argSlots,fldV,fldAV,subCells,idxVV,idxAAV,idxSV,sliceV,sliceSV,boundV,szIs,storeOp,storeS,setRowV,eff,extV,buildV,splice,eqSV,fitsL,eqCells,eqCell,minmaxV,capV,binBV,nilCheckV,bytesV,V.cells,V.stays,hc5,a4,a5,a9,upd_ne n5c.symm,upd_ne n9c]
      refine effR_new fun id6 σ6 s6 a6 f6 => ?_
      have hc6 := s6 c _ upd_same
      have a9 := s6 id9 _ (by rw [upd_ne n9c]; exact a9)
      have n6c : id6 ≠ c := by rintro rfl; rw [hc6] at a6; simp at a6
      have n69 : id6 ≠ id9 := by rintro rfl; rw [a9] at a6; simp at a6
      simp -implicitDefEqProofs only [BB,seval,← decide_not,okind,vpre,vpure,intBin,intPre,strBin,strPre,popTo,argSlots,fldV,fldAV,subCells,idxVV,idxAAV,idxSV,sliceV,sliceSV,boundV,szIs,storeOp,storeS,setRowV,eff,extV,buildV,splice,eqSV,fitsL,eqCells,eqCell,minmaxV,capV,binBV,nilCheckV,bytesV,V.cells,V.stays,a6]
      refine effR_new fun id84 σ7 s7 a84 f84 => ?_
      have hc7 := s7 c _ (by rw [upd_ne n6c.symm]; exact hc6)
      have a9 := s7 id9 _ (by rw [upd_ne n69.symm]; exact a9)
      have n84c : id84 ≠ c := by rintro rfl; rw [hc7] at a84; simp at a84
      simp -implicitDefEqProofs only [BB,seval,← decide_not,okind,vpre,vpure,intBin,intPre,strBin,strPre,popTo,argSlots,fldV,fldAV,subCells,idxVV,idxAAV,idxSV,sliceV,sliceSV,boundV,szIs,storeOp,storeS,setRowV,eff,extV,buildV,splice,eqSV,fitsL,eqCells,eqCell,minmaxV,capV,binBV,nilCheckV,bytesV,V.cells,V.stays]
      have h4 := (h3.updK hKc).trans s4
      have h4' := h4.delK hKe0
      have h5 := h4'.trans s5
      have k9 : K id9 = none := h4.none f9
      have h6' := fun o => h5.updK hKc (o := o)
      have k6 : K id6 = none := (h6' _).none f6
      have h7 := (((h6' _).trans s6).updK k6).trans s7
      obtain ⟨q1, q2, q3, q4, q5⟩ := p6 hk1
      have hl5 : ∀ n ∈ [x.st.top, x.st.bottom, x.st.padTop, x.st.padBottom, x.st.head], 0 ≤ n ∧ n ≤ mx := by
        intro n hn
        simp only [List.mem_cons,List.not_mem_nil,or_false] at hn
        rcases hn with rfl | rfl | rfl | rfl | rfl <;> assumption
      refine Runs.call rfl rfl rfl (high_c (s := ⟨if ((k + 1 : Nat) : Int) > s.depth then ((k + 1 : Nat) : Int) else s.depth, s.pieces, s.nodes + 1, s.heights⟩) (l := [x.st.top, x.st.bottom, x.st.padTop, x.st.padBottom, x.st.head]) (times := 1) hc7
        (fun ob => Reads.own (off := 0) (len := 5) ((upd_ne n84c).trans a84) rfl (by simp) (fun r hr => by simp at hr; rcases hr with rfl | rfl | rfl | rfl | rfl <;> rfl)) (by simp) hl5 (by omega) f3 rfl) ?_
      rintro r σ8 ⟨rfl, rfl⟩
      (refine Runs.of_step Orc.nothing 300 ?_; simp -implicitDefEqProofs only [BB,seval,effR_some,effD_some,← decide_not,okind,vpre,vpure,intBin,intPre,strBin,strPre,popTo,argSlots,fldV,fldAV,subCells,idxVV,idxAAV,idxSV,sliceV,sliceSV,boundV,szIs,storeOp,storeS,setRowV,eff,extV,buildV,splice,eqSV,fitsL,eqCells,eqCell,minmaxV,capV,binBV,nilCheckV,bytesV,V.cells,V.stays,Orc.nothing])
      refine ⟨_, _, SubStore.refl _, Wk.refl (SubStore.refl _) _, rfl, h7.updK hKc, .own id9 0 (k + 1), ?_, fun o => .inr ⟨id9, k + 1, full.take k ++ [i + x.size], rfl, ((upd_ne n9c).trans a9).trans (by simp), upd_none.2 ⟨n9c, k9⟩, by simp; omega, by simp; omega, ?_⟩⟩
      · have e : (if ((k + 1 : Nat) : Int) > s.depth then ((k + 1 : Nat) : Int) else s.depth) = max s.depth ((k + 1 : Nat) : Int) := by split <;> omega
        rw [upd_same, e]
        have hk0' : kept i ends = full.take k := hk0.symm
        simp [nodeS, hk1, hk0', hlk, sumsRow, Nat.min_eq_left hk]
      · have hk0' : kept i ends = full.take k := hk0.symm
        rw [List.take_of_length_le (by simp; omega)]
        simp [nodeS, hk1, hk0']
    · by_cases hk2 : x.kind = 2
      · (refine Runs.of_step Orc.nothing 300 ?_; simp -implicitDefEqProofs only [BB,seval,← decide_not,okind,vpre,vpure,intBin,intPre,strBin,strPre,popTo,argSlots,fldV,fldAV,subCells,idxVV,idxAAV,idxSV,sliceV,sliceSV,boundV,szIs,storeOp,storeS,setRowV,eff,extV,buildV,splice,eqSV,fitsL,eqCells,eqCell,minmaxV,capV,binBV,nilCheckV,bytesV,V.cells,V.stays,Orc.nothing,a4,a5,hc3,upd_ne n4c.symm,upd_ne n5c.symm,hk2,lenV_encI])
        refine ⟨hsr, inR_i64 (by omega) (by omega), ?_⟩
        refine effR_new fun id7 σ7 s7 a7 f7 => ?_
        have hc7 := s7 c _ upd_same
        have n7c : id7 ≠ c := by rintro rfl; rw [hc7] at a7; simp at a7
        simp -implicitDefEqProofs only [BB,seval,← decide_not,okind,vpre,vpure,intBin,intPre,strBin,strPre,popTo,argSlots,fldV,fldAV,subCells,idxVV,idxAAV,idxSV,sliceV,sliceSV,boundV,szIs,storeOp,storeS,setRowV,eff,extV,buildV,splice,eqSV,fitsL,eqCells,eqCell,minmaxV,capV,binBV,nilCheckV,bytesV,V.cells,V.stays]
        have h7 := (h3.updK hKc).trans s7
        refine Runs.call rfl rfl rfl (high_c (s := ⟨s.depth, s.pieces + x.words.length, s.nodes + 1, s.heights⟩) (l := [x.line]) (times := x.words.length) hc7
          (fun ob => Reads.own (off := 0) (len := 1) ((upd_ne n7c).trans a7) rfl (by simp) (fun r hr => by simp at hr; rcases hr with rfl; rfl)) (by simp) (by intro n hn; simp at hn; subst hn; exact ⟨p2, p3⟩) (by omega) f3 rfl) ?_
        rintro r σ8 ⟨rfl, rfl⟩
        (refine Runs.of_step Orc.nothing 300 ?_; simp -implicitDefEqProofs only [BB,seval,effR_some,effD_some,← decide_not,okind,vpre,vpure,intBin,intPre,strBin,strPre,popTo,argSlots,fldV,fldAV,subCells,idxVV,idxAAV,idxSV,sliceV,sliceSV,boundV,szIs,storeOp,storeS,setRowV,eff,extV,buildV,splice,eqSV,fitsL,eqCells,eqCell,minmaxV,capV,binBV,nilCheckV,bytesV,V.cells,V.stays,Orc.nothing])
        refine ⟨_, _, SubStore.refl _, Wk.refl (SubStore.refl _) _, rfl, h7.updK hKc, _, upd_same.trans (by simp [nodeS, hk2, sumsRow]; rfl), fun o => ?_⟩
        have : (nodeS i x s ends).2 = kept i ends := by simp [nodeS, hk2]
        rw [this]
        exact .inr ⟨e, k, full, rfl, (upd_ne hec).trans (s7 e _ (by rw [upd_ne hec]; exact he)), upd_none.2 ⟨hec, hKe0⟩, hk, by omega, hk0⟩
      · have h4or := p1
        (refine Runs.of_step Orc.nothing 300 ?_; simp -implicitDefEqProofs only [BB,seval,← decide_not,okind,vpre,vpure,intBin,intPre,strBin,strPre,popTo,argSlots,fldV,fldAV,subCells,idxVV,idxAAV,idxSV,sliceV,sliceSV,boundV,szIs,storeOp,storeS,setRowV,eff,extV,buildV,splice,eqSV,fitsL,eqCells,eqCell,minmaxV,capV,binBV,nilCheckV,bytesV,V.cells,V.stays,Orc.nothing,a4,a5,hc3,upd_ne n4c.symm,upd_ne n5c.symm,hk1,hk2,lenV_encI])
        refine ⟨hsr, inR_i64 (by omega) (by omega), ?_⟩
        refine effR_new fun id7 σ7 s7 a7 f7 => ?_
        have hc7 := s7 c _ upd_same
        have n7c : id7 ≠ c := by rintro rfl; rw [hc7] at a7; simp at a7
        simp -implicitDefEqProofs only [BB,seval,← decide_not,okind,vpre,vpure,intBin,intPre,strBin,strPre,popTo,argSlots,fldV,fldAV,subCells,idxVV,idxAAV,idxSV,sliceV,sliceSV,boundV,szIs,storeOp,storeS,setRowV,eff,extV,buildV,splice,eqSV,fitsL,eqCells,eqCell,minmaxV,capV,binBV,nilCheckV,bytesV,V.cells,V.stays]
        have h7 := (h3.updK hKc).trans s7
        refine Runs.call rfl rfl rfl (high_c (s := ⟨s.depth, s.pieces + 1, s.nodes + 1, s.heights⟩) (l := [x.h]) (times := 1) hc7
          (fun ob => Reads.own (off := 0) (len := 1) ((upd_ne n7c).trans a7) rfl (by simp) (fun r hr => by simp at hr; rcases hr with rfl; rfl)) (by simp) (by intro n hn; simp at hn; subst hn; exact ⟨p4, p5⟩) (by omega) f3 rfl) ?_
        rintro r σ8 ⟨rfl, rfl⟩
        (refine Runs.of_step Orc.nothing 300 ?_; simp -implicitDefEqProofs only [BB,seval,effR_some,effD_some,← decide_not,okind,vpre,vpure,intBin,intPre,strBin,strPre,popTo,argSlots,fldV,fldAV,subCells,idxVV,idxAAV,idxSV,sliceV,sliceSV,boundV,szIs,storeOp,storeS,setRowV,eff,extV,buildV,splice,eqSV,fitsL,eqCells,eqCell,minmaxV,capV,binBV,nilCheckV,bytesV,V.cells,V.stays,Orc.nothing])
        refine ⟨_, _, SubStore.refl _, Wk.refl (SubStore.refl _) _, rfl, h7.updK hKc, _, upd_same.trans (by simp [nodeS, hk1, hk2, sumsRow]; rfl), fun o => ?_⟩
        have : (nodeS i x s ends).2 = kept i ends := by simp [nodeS, hk1, hk2]
        rw [this]
        exact .inr ⟨e, k, full, rfl, (upd_ne hec).trans (s7 e _ (by rw [upd_ne hec]; exact he)), upd_none.2 ⟨hec, hKe0⟩, hk, by omega, hk0⟩
end Go.Vc
namespace Go.Vc
open Go.Proofs
set_option maxRecDepth 100000 in
theorem countv_c (l : List Nd) (hl : Fine l) : PFun Tryd.prog 23 [encNs l] (.tup [.agg (sumR l).1.cells, vI (sumR l).2]) := fun σ => by
  have hl0 := hl
  obtain ⟨hl1, hl2⟩ := hl
  rw [← countS_eq l hl0]
  refine Contract.of_runs Tryd.func23 e23 k23 (by simp [c23]) ?_
  refine Runs.mix 7 ?_
  (refine Runs.of_step Orc.nothing 300 ?_; simp -implicitDefEqProofs only [BB,seval,← decide_not,okind,vpre,vpure,intBin,intPre,strBin,strPre,popTo,argSlots,fldV,fldAV,subCells,idxVV,idxAAV,idxSV,sliceV,sliceSV,boundV,szIs,storeOp,storeS,setRowV,eff,extV,buildV,splice,eqSV,fitsL,eqCells,eqCell,minmaxV,capV,binBV,nilCheckV,bytesV,V.cells,V.stays,Orc.nothing,c23])
  refine effR_new fun idR σ1 s1 aR fR => ?_
  simp -implicitDefEqProofs only [BB,seval,← decide_not,okind,vpre,vpure,intBin,intPre,strBin,strPre,popTo,argSlots,fldV,fldAV,subCells,idxVV,idxAAV,idxSV,sliceV,sliceSV,boundV,szIs,storeOp,storeS,setRowV,eff,extV,buildV,splice,eqSV,fitsL,eqCells,eqCell,minmaxV,capV,binBV,nilCheckV,bytesV,V.cells,V.stays,aR]
  refine Runs.pcall rfl rfl rfl (isv_c l hl0 _) ?_
  (refine Runs.of_step Orc.nothing 300 ?_; simp -implicitDefEqProofs only [BB,seval,← decide_not,okind,vpre,vpure,intBin,intPre,strBin,strPre,popTo,argSlots,fldV,fldAV,subCells,idxVV,idxAAV,idxSV,sliceV,sliceSV,boundV,szIs,storeOp,storeS,setRowV,eff,extV,buildV,splice,eqSV,fitsL,eqCells,eqCell,minmaxV,capV,binBV,nilCheckV,bytesV,V.cells,V.stays,Orc.nothing,cR_b,aR])
  refine And.intro (fun hf => ?_) (fun hf => ?_)
  · simp only [Bool.not_eq_eq_eq_not,Bool.not_true] at hf
    refine RetV.pure (s1.updK fR) ?_
    simp [countS, hf, Sm.cells]
  · simp only [Bool.not_eq_eq_eq_not,Bool.not_false] at hf
    refine effR_new fun id4 σ2 s2 a4 f4 => ?_
    have nR4 := ne_new aR f4
    have aR := s2 _ _ aR
    have g4 : σ id4 = none := s1.none f4
    have hKR : SubStore (upd σ idR ⟨43, 4, [.agg Sm.zero.cells]⟩) σ2 := (s1.trans s2).putK aR
    have k4 : upd σ idR ⟨43, 4, [.agg Sm.zero.cells]⟩ id4 = none := upd_none.2 ⟨nR4.symm, g4⟩
    simp -implicitDefEqProofs only [BB,seval,← decide_not,okind,vpre,vpure,intBin,intPre,strBin,strPre,popTo,argSlots,fldV,fldAV,subCells,idxVV,idxAAV,idxSV,sliceV,sliceSV,boundV,szIs,storeOp,storeS,setRowV,eff,extV,buildV,splice,eqSV,fitsL,eqCells,eqCell,minmaxV,capV,binBV,nilCheckV,bytesV,V.cells,V.stays,lenV_encNs]
    refine Runs.loop (fun m st => ∃ (i : Nat) (v : V), i ≤ l.length ∧ m = l.length - i ∧ SubStore (upd σ idR ⟨43, 4, [.agg Sm.zero.cells]⟩) st.σ ∧ st.σ id4 = some (sumsRow (foldS l i).1 v) ∧
      (∀ o, EndsV (upd (upd σ idR ⟨43, 4, [.agg Sm.zero.cells]⟩) id4 o) st.σ v (foldS l i).2 i) ∧ st.s 2 = .ptr idR 0 0 ∧ st.s 4 = .ptr id4 0 0 ∧ st.s 11 = encNs l ∧ st.s 12 = vI l.length ∧ st.s 13 = vI i) l.length ?_ ?_
    · exact ⟨0, .nils, by omega, by omega, hKR, a4, fun o => .inl ⟨rfl, rfl⟩, rfl, rfl, rfl, rfl, rfl⟩
    · rintro m ⟨s, σ'⟩ ⟨i, v, hi, rfl, hsub, h4s, hE, h2, h4, h11, h12, h13⟩
      simp only at hsub h4s hE h2 h4 h11 h12 h13
      obtain ⟨e1, e2, e3, e4⟩ := foldS_foldR l hl0 hf i hi
      have hok : l.all Nd.ok = true ∧ rowsB l 0 l.length = true := by simpa [isB] using hf
      have hRs : σ' idR = some ⟨43, 4, [.agg Sm.zero.cells]⟩ := hsub idR _ upd_same
      refine Runs.mix 7 ?_
      (refine Runs.of_step Orc.nothing 300 ?_; simp -implicitDefEqProofs only [BB,seval,← decide_not,okind,vpre,vpure,intBin,intPre,strBin,strPre,popTo,argSlots,fldV,fldAV,subCells,idxVV,idxAAV,idxSV,sliceV,sliceSV,boundV,szIs,storeOp,storeS,setRowV,eff,extV,buildV,splice,eqSV,fitsL,eqCells,eqCell,minmaxV,capV,binBV,nilCheckV,bytesV,V.cells,V.stays,Orc.nothing,h2,h4,h11,h12,h13,h4s,sumsRow,hRs,Sm.zero,Sm.cells])
      refine And.intro (fun hlt => ?_) (fun hge => ?_)
      · have hlt' : i < l.length := by omega
        have hx := (List.all_eq_true.1 hok.1) _ (List.getElem_mem hlt')
        have hxw := hl2 _ (List.getElem_mem hlt')
        obtain ⟨z1, z2, z3⟩ := rowsB_size l (l.length + 1) 0 l.length (by omega) (by omega) hok.2 i (by omega) hlt' hlt'
        have hstep : foldS l (i + 1) = nodeS i l[i] (foldS l i).1 (foldS l i).2 := by simp [foldS, hlt']
        generalize hxe : l[i] = x at *
        simp -implicitDefEqProofs only [BB,seval,← decide_not,okind,vpre,vpure,intBin,intPre,strBin,strPre,popTo,argSlots,fldV,fldAV,subCells,idxVV,idxAAV,idxSV,sliceV,sliceSV,boundV,szIs,storeOp,storeS,setRowV,eff,extV,buildV,splice,eqSV,fitsL,eqCells,eqCell,minmaxV,capV,binBV,nilCheckV,bytesV,V.cells,V.stays,idxAV_encNs hlt',hxe,h2,h4,h11,h12,h13,Nd.cells]
        refine effR_new fun id6 σ6 s6 a6 f6 => ?_
        have n64 : id6 ≠ id4 := by rintro rfl; rw [h4s] at f6; cases f6
        have n6R : id6 ≠ idR := by rintro rfl; rw [hRs] at f6; cases f6
        have g6 : upd σ idR ⟨43, 4, [.agg Sm.zero.cells]⟩ id6 = none := hsub.none f6
        simp -implicitDefEqProofs only [BB,seval,← decide_not,okind,vpre,vpure,intBin,intPre,strBin,strPre,popTo,argSlots,fldV,fldAV,subCells,idxVV,idxAAV,idxSV,sliceV,sliceSV,boundV,szIs,storeOp,storeS,setRowV,eff,extV,buildV,splice,eqSV,fitsL,eqCells,eqCell,minmaxV,capV,binBV,nilCheckV,bytesV,V.cells,V.stays,a6,h2,h4,h11,h12,h13]
        have hsub6 := hsub.trans s6
        have hcall := (node_c (K := upd σ idR ⟨43, 4, [.agg Sm.zero.cells]⟩) (σ := upd σ6 id6 ⟨37, 20, [encN x]⟩) (i := i) (x := x) (s := (foldS l i).1) (B := i) (hsub6.updK g6) k4 ((upd_ne n64.symm).trans (s6 _ _ h4s))
          (fun o => ((hE o).new (s6.updK f6) f6 (o := ⟨0, 0, []⟩)).less ((SubStore.refl _).updK (upd_none.2 ⟨n64, g6⟩))) (by omega) (by omega) (by rw [e1]; exact e3) (by rw [e1]) hx hxw (by omega))
        simp only [encN,Nd.cells] at hcall
        refine Runs.call rfl rfl rfl (by simp -implicitDefEqProofs only [BB,seval,effR_some,effD_some,← decide_not,okind,vpre,vpure,intBin,intPre,strBin,strPre,popTo,argSlots,fldV,fldAV,subCells,idxVV,idxAAV,idxSV,sliceV,sliceSV,boundV,szIs,storeOp,storeS,setRowV,eff,extV,buildV,splice,eqSV,fitsL,eqCells,eqCell,minmaxV,capV,binBV,nilCheckV,bytesV,V.cells,V.stays,h4]; exact hcall) ?_
        · rintro r σ7 ⟨rfl, hK7, v', h4', hE'⟩
          (refine Runs.of_step Orc.nothing 300 ?_; simp -implicitDefEqProofs only [BB,seval,effR_some,effD_some,← decide_not,okind,vpre,vpure,intBin,intPre,strBin,strPre,popTo,argSlots,fldV,fldAV,subCells,idxVV,idxAAV,idxSV,sliceV,sliceSV,boundV,szIs,storeOp,storeS,setRowV,eff,extV,buildV,splice,eqSV,fitsL,eqCells,eqCell,minmaxV,capV,binBV,nilCheckV,bytesV,V.cells,V.stays,Orc.nothing,h2,h4,h11,h12,h13])
          refine ⟨inR_i64 (by omega) (by omega), _, ?_, i + 1, v', by omega, rfl, hK7, ?_, ?_, ?_⟩
          · omega
          · rw [hstep, h4']; rfl
          · intro o; rw [hstep]; exact hE' o
          · simp
      · have hie : i = l.length := by omega
        subst hie
        refine RetV.pure ((((SubStore.refl σ).updK fR).trans hsub).updK fR) ?_
        simp [countS, hf, Sm.cells]
end Go.Vc
namespace Go.Vc
open Go.Proofs
theorem cast2 : ((2 : Nat) : Int) = 2 := rfl
theorem cast3 : ((3 : Nat) : Int) = 3 := rfl
theorem cast4 : ((4 : Nat) : Int) = 4 := rfl
set_option maxRecDepth 100000 in
theorem checkv_c (l : List Nd) (hl : Fine l) : PFun Tryd.prog 25 [encNs l] (vI (checkR l)) := fun σ => by
  refine Contract.of_runs Tryd.func25 e25 k25 (by simp [c25]) ?_
  refine Runs.mix 8 ?_
  (refine Runs.of_step Orc.nothing 300 ?_; simp -implicitDefEqProofs only [BB,seval,← decide_not,okind,vpre,vpure,intBin,intPre,strBin,strPre,popTo,argSlots,fldV,fldAV,subCells,idxVV,idxAAV,idxSV,sliceV,sliceSV,boundV,szIs,storeOp,storeS,setRowV,eff,extV,buildV,splice,eqSV,fitsL,eqCells,eqCell,minmaxV,capV,binBV,nilCheckV,bytesV,V.cells,V.stays,Orc.nothing,c25])
  refine Runs.pcall rfl rfl rfl (countv_c l hl _) ?_
  (refine Runs.of_step Orc.nothing 300 ?_; simp -implicitDefEqProofs only [BB,seval,← decide_not,okind,vpre,vpure,intBin,intPre,strBin,strPre,popTo,argSlots,fldV,fldAV,subCells,idxVV,idxAAV,idxSV,sliceV,sliceSV,boundV,szIs,storeOp,storeS,setRowV,eff,extV,buildV,splice,eqSV,fitsL,eqCells,eqCell,minmaxV,capV,binBV,nilCheckV,bytesV,V.cells,V.stays,Orc.nothing,Sm.cells])
  refine effR_new fun id3 σ1 s1 a3 f3 => ?_
  have hsub := fun o => s1.updK f3 (o := o)
  simp -implicitDefEqProofs only [BB,seval,← decide_not,okind,vpre,vpure,intBin,intPre,strBin,strPre,popTo,argSlots,fldV,fldAV,subCells,idxVV,idxAAV,idxSV,sliceV,sliceSV,boundV,szIs,storeOp,storeS,setRowV,eff,extV,buildV,splice,eqSV,fitsL,eqCells,eqCell,minmaxV,capV,binBV,nilCheckV,bytesV,V.cells,V.stays,a3]
  have hc : (sumR l).2 = if isB l then 0 else 4 := by unfold sumR; split <;> rfl
  refine And.intro (fun h => ?_) (fun h => ?_)
  · refine RetV.pure (hsub _) ?_
    have : isB l = false := by
      rw [hc] at h
      cases hb : isB l <;> simp_all
    simp [checkR, this, hc]
  · have hb : isB l = true := by
      rw [hc] at h
      cases hb : isB l <;> simp_all
    have hR : checkR l = if (sumR l).1.depth > 16 ∨ (sumR l).1.pieces > 2000 ∨ (sumR l).1.nodes > 2000 ∨ (sumR l).1.heights > 1099511627776 then 2 else 0 := by
      simp only [checkR,hb,if_true]
    generalize (sumR l).1 = sm at *
    refine effR_new fun id5 σ2 s2 a5 f5 => ?_
    have hs2 := (hsub _).trans s2
    have g5 : σ id5 = none := (hsub _).none f5
    simp -implicitDefEqProofs only [BB,seval,← decide_not,okind,vpre,vpure,intBin,intPre,strBin,strPre,popTo,argSlots,fldV,fldAV,subCells,idxVV,idxAAV,idxSV,sliceV,sliceSV,boundV,szIs,storeOp,storeS,setRowV,eff,extV,buildV,splice,eqSV,fitsL,eqCells,eqCell,minmaxV,capV,binBV,nilCheckV,bytesV,V.cells,V.stays,a5]
    refine Runs.loop (fun m st => ∃ (i : Nat), i ≤ 4 ∧ m = 4 - i ∧ st.σ = upd σ2 id5 ⟨81, 4, [.agg sm.cells]⟩ ∧ (0 < i → sm.depth ≤ 16) ∧ (1 < i → sm.pieces ≤ 2000) ∧ (2 < i → sm.nodes ≤ 2000) ∧ (3 < i → sm.heights ≤ 1099511627776) ∧
      st.s 5 = .ptr id5 0 0 ∧ st.s 25 = .agg [vI 16, vI 2000, vI 2000, vI 1099511627776] ∧ st.s 26 = vI i) 4 ?_ ?_
    · exact ⟨0, by omega, by omega, rfl, by omega, by omega, by omega, by omega, rfl, rfl, rfl⟩
    · rintro m ⟨s, σ'⟩ ⟨i, hi, rfl, hσ, p1, p2, p3, p4, h5, h25, h26⟩
      simp only at hσ h5 h25 h26
      subst hσ
      have hi' : i = 0 ∨ i = 1 ∨ i = 2 ∨ i = 3 ∨ i = 4 := by omega
      have hend : ∀ (p : Prop), p → p := fun _ h => h
      rcases hi' with rfl | rfl | rfl | rfl | rfl
      · refine Runs.mix 8 ?_
        (refine Runs.of_step Orc.nothing 300 ?_; simp -implicitDefEqProofs only [BB,seval,effR_some,effD_some,← decide_not,okind,vpre,vpure,intBin,intPre,strBin,strPre,popTo,argSlots,fldV,fldAV,subCells,idxVV,idxAAV,idxSV,sliceV,sliceSV,boundV,szIs,storeOp,storeS,setRowV,eff,extV,buildV,splice,eqSV,fitsL,eqCells,eqCell,minmaxV,capV,binBV,nilCheckV,bytesV,V.cells,V.stays,Orc.nothing,h5,h25,h26,Sm.cells,Int.ofNat_zero,Int.natCast_zero,cast2,cast3,cast4,Int.toNat_zero,Int.reduceToNat,Nat.zero_mul])
        refine And.intro (fun g => ?_) (fun g => ?_)
        · refine RetV.pure (hs2.updK g5) ?_
          rw [hR, if_pos]
          omega
        · refine ⟨inR_i64 (by omega) (by omega), _, ?_, 1, by omega, rfl, ?_, ?_, ?_, ?_, rfl⟩ <;> omega
      · refine Runs.mix 8 ?_
        (refine Runs.of_step Orc.nothing 300 ?_; simp -implicitDefEqProofs only [BB,seval,effR_some,effD_some,← decide_not,okind,vpre,vpure,intBin,intPre,strBin,strPre,popTo,argSlots,fldV,fldAV,subCells,idxVV,idxAAV,idxSV,sliceV,sliceSV,boundV,szIs,storeOp,storeS,setRowV,eff,extV,buildV,splice,eqSV,fitsL,eqCells,eqCell,minmaxV,capV,binBV,nilCheckV,bytesV,V.cells,V.stays,Orc.nothing,h5,h25,h26,Sm.cells,Int.ofNat_zero,Int.natCast_zero,Int.natCast_one,Int.toNat_one,cast2,cast3,cast4,Int.toNat_zero,Int.reduceToNat,Nat.zero_mul,Nat.reduceMul])
        refine And.intro (fun g => ?_) (fun g => ?_)
        · refine RetV.pure (hs2.updK g5) ?_
          rw [hR, if_pos]
          omega
        · refine ⟨inR_i64 (by omega) (by omega), _, ?_, 2, by omega, rfl, ?_, ?_, ?_, ?_, rfl⟩ <;> omega
      · refine Runs.mix 8 ?_
        (refine Runs.of_step Orc.nothing 300 ?_; simp -implicitDefEqProofs only [BB,seval,effR_some,effD_some,← decide_not,okind,vpre,vpure,intBin,intPre,strBin,strPre,popTo,argSlots,fldV,fldAV,subCells,idxVV,idxAAV,idxSV,sliceV,sliceSV,boundV,szIs,storeOp,storeS,setRowV,eff,extV,buildV,splice,eqSV,fitsL,eqCells,eqCell,minmaxV,capV,binBV,nilCheckV,bytesV,V.cells,V.stays,Orc.nothing,h5,h25,h26,Sm.cells,Int.ofNat_zero,Int.natCast_zero,Int.natCast_one,Int.toNat_one,cast2,cast3,cast4,Int.toNat_zero,Int.reduceToNat,Nat.zero_mul,Nat.reduceMul])
        refine And.intro (fun g => ?_) (fun g => ?_)
        · refine RetV.pure (hs2.updK g5) ?_
          rw [hR, if_pos]
          omega
        · refine ⟨inR_i64 (by omega) (by omega), _, ?_, 3, by omega, rfl, ?_, ?_, ?_, ?_, rfl⟩ <;> omega
      · refine Runs.mix 8 ?_
        (refine Runs.of_step Orc.nothing 300 ?_; simp -implicitDefEqProofs only [BB,seval,effR_some,effD_some,← decide_not,okind,vpre,vpure,intBin,intPre,strBin,strPre,popTo,argSlots,fldV,fldAV,subCells,idxVV,idxAAV,idxSV,sliceV,sliceSV,boundV,szIs,storeOp,storeS,setRowV,eff,extV,buildV,splice,eqSV,fitsL,eqCells,eqCell,minmaxV,capV,binBV,nilCheckV,bytesV,V.cells,V.stays,Orc.nothing,h5,h25,h26,Sm.cells,Int.ofNat_zero,Int.natCast_zero,Int.natCast_one,Int.toNat_one,cast2,cast3,cast4,Int.toNat_zero,Int.reduceToNat,Nat.zero_mul,Nat.reduceMul])
        refine And.intro (fun g => ?_) (fun g => ?_)
        · refine RetV.pure (hs2.updK g5) ?_
          rw [hR, if_pos]
          omega
        · refine ⟨inR_i64 (by omega) (by omega), _, ?_, 4, by omega, rfl, ?_, ?_, ?_, ?_, rfl⟩ <;> omega
      · refine Runs.mix 8 ?_
        (refine Runs.of_step Orc.nothing 300 ?_; simp -implicitDefEqProofs only [BB,seval,effR_some,effD_some,← decide_not,okind,vpre,vpure,intBin,intPre,strBin,strPre,popTo,argSlots,fldV,fldAV,subCells,idxVV,idxAAV,idxSV,sliceV,sliceSV,boundV,szIs,storeOp,storeS,setRowV,eff,extV,buildV,splice,eqSV,fitsL,eqCells,eqCell,minmaxV,capV,binBV,nilCheckV,bytesV,V.cells,V.stays,Orc.nothing,h5,h25,h26,Sm.cells,Int.ofNat_zero,Int.natCast_zero,Int.natCast_one,cast2,cast3,cast4,Int.toNat_zero,Int.reduceToNat,Nat.zero_mul])
        refine RetV.pure (hs2.updK g5) ?_
        rw [hR, if_neg]
        omega
end Go.Vc
