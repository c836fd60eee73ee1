/- Part 8 of the library of this proof. -/
import Derived.Test.YtnomejmaolodhaaW7
set_option linter.all false
namespace Go.Vc
open Go.Proofs
def ups (l : List Nd) : Nat → Int → List Int
  | 0, _ => []
  | f + 1, p => if 0 ≤ p then p :: ups l f (parR l p.toNat) else []
theorem ups_neg {l : List Nd} {f : Nat} {p : Int} (h : p < 0) : ups l f p = [] := by
  cases f with
  | zero => rfl
  | succ f => rw [ups, if_neg (by omega)]
theorem ups_pos {l : List Nd} {f : Nat} {p : Int} (h : 0 ≤ p) (hf : p < f) : ∃ g, f = g + 1 ∧ ups l f p = p :: ups l g (parR l p.toNat) := by
  cases f with
  | zero => omega
  | succ f => exact ⟨f, rfl, by rw [ups, if_pos h]⟩
theorem parR_range (l : List Nd) (a : Nat) : -1 ≤ parR l a ∧ parR l a < a := parD_range l a a
theorem ldN (σ : Store) (l : List Nd) : loadV σ false 1 (.rp (encNs l)) = some (encNs l) := rfl
theorem fdN (l : List Nd) : fldAV false 0 1 (.rp (.agg [encNs l])) = some (.rp (encNs l)) := rfl
def upsV (l : List Int) : List (List V) := l.map fun p => [vI p]
set_option maxRecDepth 100000 in
theorem above_iter (l : List Nd) (hl : Fine l) (hb : isB l = true) (a : Nat) (ha : a < l.length) : Iter Try.prog 81 [.rp (.agg [encNs l]), .rp (vI a)] (upsV (ups l (l.length + 1) (parR l a))) := by
  have hhas : hasI l (a : Int) = true := hasI_iff.2 ⟨by omega, by omega⟩
  have hpr := parR_range l a
  refine ⟨k81, fun idl J Jx σ0 hy hJ => ?_⟩
  refine (Contract.of_runs Try.func81 e81 k81 (by simp [c81]) ?_).2
  refine Runs.mix 5 ?_
  (refine Runs.of_step Orc.nothing 300 ?_; simp -implicitDefEqProofs only [BB,seval,← decide_not,okind,vpre,vpure,intBin,intPre,strBin,strPre,popTo,argSlots,fldV,subCells,idxVV,idxAAV,idxSV,sliceV,sliceSV,boundV,szIs,storeOp,storeS,setRowV,eff,extV,buildV,splice,eqSV,fitsL,eqCells,eqCell,minmaxV,capV,binBV,nilCheckV,bytesV,V.cells,V.stays,Orc.nothing,c81,ldN,fdN])
  refine Runs.pcall rfl rfl rfl (has9_c l a _) ?_
  rw [hhas]
  (refine Runs.of_step Orc.nothing 300 ?_; simp -implicitDefEqProofs only [BB,seval,← decide_not,okind,vpre,vpure,intBin,intPre,strBin,strPre,popTo,argSlots,fldV,subCells,idxVV,idxAAV,idxSV,sliceV,sliceSV,boundV,szIs,storeOp,storeS,setRowV,eff,extV,buildV,splice,eqSV,fitsL,eqCells,eqCell,minmaxV,capV,binBV,nilCheckV,bytesV,V.cells,V.stays,Orc.nothing,ldN,fdN])
  refine Runs.pcall rfl rfl rfl (parent9_c l hl hb a ha _) ?_
  (refine Runs.of_step Orc.nothing 300 ?_; simp -implicitDefEqProofs only [BB,seval,← decide_not,okind,vpre,vpure,intBin,intPre,strBin,strPre,popTo,argSlots,fldV,fldAV,subCells,idxVV,idxAAV,idxSV,sliceV,sliceSV,boundV,szIs,storeOp,storeS,setRowV,eff,extV,buildV,splice,eqSV,fitsL,eqCells,eqCell,minmaxV,capV,binBV,nilCheckV,bytesV,V.cells,V.stays,Orc.nothing])
  refine Runs.loop (fun m st => ∃ (pre : List Int) (q : Int) (f : Nat) (σJ : Store), m = (q + 1).toNat ∧ -1 ≤ q ∧ q < l.length ∧ q < f ∧ ups l (l.length + 1) (parR l a) = pre ++ ups l f q ∧ J (upsV pre) σJ ∧ SubStore σJ st.σ ∧
    st.s 0 = .yl idl ∧ st.s 1 = .rp (.agg [encNs l]) ∧ st.s 4 = vI q) (parR l a + 1).toNat ?_ ?_
  · exact ⟨[], parR l a, l.length + 1, σ0, rfl, by omega, by omega, by omega, rfl, hJ, SubStore.refl _, rfl, rfl, rfl⟩
  · rintro m ⟨s, σ'⟩ ⟨pre, q, f, σJ, rfl, hq1, hq2, hqf, hxs, hJp, hsub, h0, h1, h4⟩
    simp only at hsub h0 h1 h4
    refine Runs.mix 5 ?_
    by_cases hq : 0 ≤ q
    · obtain ⟨g, rfl, hu⟩ := ups_pos (l := l) hq hqf
      obtain ⟨k, rfl⟩ : ∃ k : Nat, q = k := ⟨q.toNat, by omega⟩
      have hge : ((k : Int) ≥ 0) = True := by simp
      rw [Int.toNat_natCast] at hu
      have hpk := parR_range l k
      have hkl : k < l.length := by omega
      have e : upsV (ups l (l.length + 1) (parR l a)) = upsV pre ++ [vI k] :: upsV (ups l g (parR l k)) := by rw [hxs, hu]; simp [upsV]
      (refine Runs.of_step Orc.nothing 300 ?_; simp -implicitDefEqProofs only [BB,seval,← decide_not,okind,vpre,vpure,intBin,intPre,strBin,strPre,popTo,argSlots,fldV,fldAV,subCells,idxVV,idxAAV,idxSV,sliceV,sliceSV,boundV,szIs,storeOp,storeS,setRowV,eff,extV,buildV,splice,eqSV,fitsL,eqCells,eqCell,minmaxV,capV,binBV,nilCheckV,bytesV,V.cells,V.stays,Orc.nothing,h0,h1,h4,hge])
      refine Runs.ycall (Post := fun b σ2 => ∃ σJ', Beside σJ σ' σJ' σ2 ∧ ((b = true ∧ J (upsV pre ++ [[vI k]]) σJ') ∨ (b = false ∧ Jx (upsV pre ++ [[vI k]]) σJ'))) rfl rfl rfl (hy _ [vI k] _ σJ σ' e hJp hsub) ?_
      rintro b σ2 ⟨σJ', hbs, hbb⟩
      rcases hbb with ⟨rfl, hbb⟩ | ⟨rfl, hbb⟩
      · (refine Runs.of_step Orc.nothing 300 ?_; simp -implicitDefEqProofs only [BB,seval,← decide_not,okind,vpre,vpure,intBin,intPre,strBin,strPre,popTo,argSlots,fldV,subCells,idxVV,idxAAV,idxSV,sliceV,sliceSV,boundV,szIs,storeOp,storeS,setRowV,eff,extV,buildV,splice,eqSV,fitsL,eqCells,eqCell,minmaxV,capV,binBV,nilCheckV,bytesV,V.cells,V.stays,Orc.nothing,h0,h1,h4,ldN,fdN])
        refine Runs.pcall rfl rfl rfl (parent9_c l hl hb k hkl _) ?_
        (refine Runs.of_step Orc.nothing 300 ?_; simp -implicitDefEqProofs only [BB,seval,← decide_not,okind,vpre,vpure,intBin,intPre,strBin,strPre,popTo,argSlots,fldV,fldAV,subCells,idxVV,idxAAV,idxSV,sliceV,sliceSV,boundV,szIs,storeOp,storeS,setRowV,eff,extV,buildV,splice,eqSV,fitsL,eqCells,eqCell,minmaxV,capV,binBV,nilCheckV,bytesV,V.cells,V.stays,Orc.nothing,h0,h1])
        refine ⟨_, ?_, pre ++ [(k : Int)], parR l k, g, σJ', rfl, by omega, by omega, by omega, by rw [hxs, hu]; simp, ?_, hbs.1, by simp [h0, h1]⟩
        · omega
        · simpa [upsV] using hbb
      · (refine Runs.of_step Orc.nothing 300 ?_; simp -implicitDefEqProofs only [BB,seval,← decide_not,okind,vpre,vpure,intBin,intPre,strBin,strPre,popTo,argSlots,fldV,fldAV,subCells,idxVV,idxAAV,idxSV,sliceV,sliceSV,boundV,szIs,storeOp,storeS,setRowV,eff,extV,buildV,splice,eqSV,fitsL,eqCells,eqCell,minmaxV,capV,binBV,nilCheckV,bytesV,V.cells,V.stays,Orc.nothing,h0,h1,h4])
        refine ⟨_, σJ', hbs.1, Wk.refl hbs.1 _, .inr ⟨upsV pre ++ [[vI k]], ?_, hbb⟩⟩
        rw [e]
        exact ⟨upsV (ups l g (parR l k)), by simp⟩
    · have hge : (q ≥ 0) = False := by simp; omega
      (refine Runs.of_step Orc.nothing 300 ?_; simp -implicitDefEqProofs only [BB,seval,← decide_not,okind,vpre,vpure,intBin,intPre,strBin,strPre,popTo,argSlots,fldV,fldAV,subCells,idxVV,idxAAV,idxSV,sliceV,sliceSV,boundV,szIs,storeOp,storeS,setRowV,eff,extV,buildV,splice,eqSV,fitsL,eqCells,eqCell,minmaxV,capV,binBV,nilCheckV,bytesV,V.cells,V.stays,Orc.nothing,h0,h1,h4,hge])
      rw [ups_neg (l := l) (f := f) (p := q) (by omega), List.append_nil] at hxs
      exact ⟨_, σJ, hsub, Wk.refl hsub _, .inl (by rw [hxs]; exact hJp)⟩
theorem aboveF_c (l : List Nd) (a : Int) : PFun Try.prog 75 [.agg [encNs l], vI a] (.fn 81 [.rp (.agg [encNs l]), .rp (vI a)]) := fun σ => by
  refine Contract.of_runs Try.func75 e75 k75 (by simp [c75]) ?_
  refine Runs.mix 4 ?_
  have q1 : (V.agg [encNs l]).cells.length = 1 := rfl
  have q2 : (V.agg [encNs l]).stays = true := rfl
  generalize V.agg [encNs l] = x at *
  (refine Runs.of_step Orc.nothing 300 ?_; simp -implicitDefEqProofs only [BB,seval,← decide_not,okind,vpre,vpure,intBin,intPre,strBin,strPre,popTo,argSlots,fldV,fldAV,subCells,idxVV,idxAAV,idxSV,sliceV,sliceSV,boundV,szIs,storeOp,storeS,setRowV,eff,extV,buildV,splice,eqSV,fitsL,eqCells,eqCell,minmaxV,capV,binBV,nilCheckV,bytesV,Orc.nothing,c75,q1,q2,V.cells_agg,V.cells_int,V.cells_nils,V.cells_own,V.cells_sl,V.cells_str,V.cells_bool,V.cells_fn,V.cells_ptr,V.cells_rp,V.stays_agg,V.stays_int,V.stays_nils,V.stays_own,V.stays_sl,V.stays_str,V.stays_bool,V.stays_fn,V.stays_ptr,V.stays_rp])
  refine effR_new fun id1 σ1 s1 a1 f1 => ?_
  simp -implicitDefEqProofs only [BB,seval,← decide_not,okind,vpre,vpure,intBin,intPre,strBin,strPre,popTo,argSlots,fldV,fldAV,subCells,idxVV,idxAAV,idxSV,sliceV,sliceSV,boundV,szIs,storeOp,storeS,setRowV,eff,extV,buildV,splice,eqSV,fitsL,eqCells,eqCell,minmaxV,capV,binBV,nilCheckV,bytesV,V.cells,V.stays]
  refine effR_new fun id2 σ2 s2 a2 f2 => ?_
  simp -implicitDefEqProofs only [BB,seval,← decide_not,okind,vpre,vpure,intBin,intPre,strBin,strPre,popTo,argSlots,fldV,fldAV,subCells,idxVV,idxAAV,idxSV,sliceV,sliceSV,boundV,szIs,storeOp,storeS,setRowV,eff,extV,buildV,splice,eqSV,fitsL,eqCells,eqCell,minmaxV,capV,binBV,nilCheckV,bytesV,V.cells,V.stays]
  exact ⟨_, σ, s1.trans s2, Wk.fn (vs' := [.rp x, .rp (vI a)]) ⟨Wk.ptr (s1.trans s2) (s2 _ _ a1) f1, Wk.ptr (s1.trans s2) a2 (s1.none f2), trivial⟩, rfl, rfl⟩
set_option maxRecDepth 100000 in
theorem parent91_c (l : List Nd) (hl : Fine l) (hb : isB l = true) (a : Nat) (ha : a < l.length) : PFun Try.prog 61 [encNs l, vI a] (vI (parR l a)) := fun σ => by
  refine Contract.of_runs Try.func61 e61 k61 (by simp [c61]) ?_
  refine Runs.mix 5 ?_
  have hit := above_iter l hl hb a ha
  have hpr := parR_range l a
  (refine Runs.of_step Orc.nothing 300 ?_; simp -implicitDefEqProofs only [BB,seval,← decide_not,okind,vpre,vpure,intBin,intPre,strBin,strPre,popTo,argSlots,fldV,fldAV,subCells,idxVV,idxAAV,idxSV,sliceV,sliceSV,boundV,szIs,storeOp,storeS,setRowV,eff,extV,buildV,splice,eqSV,fitsL,eqCells,eqCell,minmaxV,capV,binBV,nilCheckV,bytesV,V.cells,V.stays,Orc.nothing,c61])
  refine effR_new fun id4 σ1 s1 a4 f4 => ?_
  simp -implicitDefEqProofs only [BB,seval,← decide_not,okind,vpre,vpure,intBin,intPre,strBin,strPre,popTo,argSlots,fldV,fldAV,subCells,idxVV,idxAAV,idxSV,sliceV,sliceSV,boundV,szIs,storeOp,storeS,setRowV,eff,extV,buildV,splice,eqSV,fitsL,eqCells,eqCell,minmaxV,capV,binBV,nilCheckV,bytesV,V.cells,V.stays]
  refine Runs.pcall rfl rfl rfl (tree_c l hl hb _) ?_
  (refine Runs.of_step Orc.nothing 300 ?_; simp -implicitDefEqProofs only [BB,seval,← decide_not,okind,vpre,vpure,intBin,intPre,strBin,strPre,popTo,argSlots,fldV,fldAV,subCells,idxVV,idxAAV,idxSV,sliceV,sliceSV,boundV,szIs,storeOp,storeS,setRowV,eff,extV,buildV,splice,eqSV,fitsL,eqCells,eqCell,minmaxV,capV,binBV,nilCheckV,bytesV,V.cells,V.stays,Orc.nothing])
  refine Runs.pcall rfl rfl rfl (aboveF_c l a _) ?_
  (refine Runs.of_step Orc.nothing 300 ?_; simp -implicitDefEqProofs only [BB,seval,← decide_not,okind,vpre,vpure,intBin,intPre,strBin,strPre,popTo,argSlots,fldV,fldAV,subCells,idxVV,idxAAV,idxSV,sliceV,sliceSV,boundV,szIs,storeOp,storeS,setRowV,eff,extV,buildV,splice,eqSV,fitsL,eqCells,eqCell,minmaxV,capV,binBV,nilCheckV,bytesV,V.cells,V.stays,Orc.nothing])
  generalize hS : mix 5 _ _ = S
  have S4 : S 4 = .ptr id4 0 0 := by rw [← hS]; rfl
  have S9 : S 9 = .fn 81 [.rp (.agg [encNs l]), .rp (vI a)] := by rw [← hS]; rfl
  clear hS
  have hx0 : ∀ x pre post, upsV (ups l (l.length + 1) (parR l a)) = pre ++ x :: post → pre = [] → x = [vI (parR l a)] := fun x pre post h hp => by
    subst hp
    by_cases h0 : 0 ≤ parR l a
    · obtain ⟨g, _, hu⟩ := ups_pos (l := l) (f := l.length + 1) h0 (by omega)
      rw [hu] at h
      simp only [upsV,List.map_cons,List.nil_append,List.cons.injEq] at h
      exact h.1.symm
    · rw [ups_neg (by omega)] at h; simp [upsV] at h
  refine Runs.rangeF (g := .t 9) (caps := [.rp (.agg [encNs l]), .rp (vI a)]) S9 hit (fun x hx => ?_) [] (fun pre σJ => pre = [] ∧ σJ = σ1) (fun c pre σJ => c = none ∧ σJ = upd σ1 id4 ⟨3, 1, [vI (parR l a)]⟩) ?_ ?_ ?_ ?_ ?_
  · simp only [upsV,List.mem_map] at hx
    obtain ⟨t, _, rfl⟩ := hx; rfl
  · exact ⟨rfl, rfl⟩
  · rintro pre x post σJ σB hxs ⟨rfl, rfl⟩ hsub
    obtain rfl := hx0 x [] post hxs rfl
    have b4 := hsub _ _ a4
    generalize hSS : putL S [10] [vI (parR l a)] = S0
    have T4 : S0 4 = .ptr id4 0 0 := by rw [← hSS]; exact S4
    have T10 : S0 10 = vI (parR l a) := by rw [← hSS]; rfl
    clear hSS
    refine Runs.mix 11 ?_
    (refine Runs.of_step Orc.nothing 300 ?_; simp -implicitDefEqProofs only [BB,seval,← decide_not,okind,vpre,vpure,intBin,intPre,strBin,strPre,popTo,argSlots,fldV,fldAV,subCells,idxVV,idxAAV,idxSV,sliceV,sliceSV,boundV,szIs,storeOp,storeS,setRowV,eff,extV,buildV,splice,eqSV,fitsL,eqCells,eqCell,minmaxV,capV,binBV,nilCheckV,bytesV,V.cells,V.stays,Orc.nothing,T4,T10,b4])
    refine Runs.mix 11 ?_
    (refine Runs.of_step Orc.nothing 300 ?_; simp -implicitDefEqProofs only [BB,seval,← decide_not,okind,vpre,vpure,intBin,intPre,strBin,strPre,popTo,argSlots,fldV,fldAV,subCells,idxVV,idxAAV,idxSV,sliceV,sliceSV,boundV,szIs,storeOp,storeS,setRowV,eff,extV,buildV,splice,eqSV,fitsL,eqCells,eqCell,minmaxV,capV,binBV,nilCheckV,bytesV,V.cells,V.stays,Orc.nothing,T4,b4])
    exact ⟨_, (Beside.refl hsub).set (o := ⟨3, 1, [vI 0]⟩) a4, rfl⟩
  · rintro σ' ⟨hn, rfl⟩
    have hpm : parR l a = -1 := by
      by_cases h0 : 0 ≤ parR l a
      · obtain ⟨g, _, hu⟩ := ups_pos (l := l) (f := l.length + 1) h0 (by omega)
        rw [hu] at hn; simp [upsV] at hn
      · omega
    refine Runs.mix 5 ?_
    (refine Runs.of_step Orc.nothing 300 ?_; simp -implicitDefEqProofs only [BB,seval,← decide_not,okind,vpre,vpure,intBin,intPre,strBin,strPre,popTo,argSlots,fldV,fldAV,subCells,idxVV,idxAAV,idxSV,sliceV,sliceSV,boundV,szIs,storeOp,storeS,setRowV,eff,extV,buildV,splice,eqSV,fitsL,eqCells,eqCell,minmaxV,capV,binBV,nilCheckV,bytesV,V.cells,V.stays,Orc.nothing,S4,a4])
    rw [hpm]
    exact RetV.pure (s1.updK f4) rfl
  · intro id h; cases h
  · rintro pre σ' _ ⟨_, rfl⟩
    refine Runs.mix 5 ?_
    (refine Runs.of_step Orc.nothing 300 ?_; simp -implicitDefEqProofs only [BB,seval,← decide_not,okind,vpre,vpure,intBin,intPre,strBin,strPre,popTo,argSlots,fldV,fldAV,subCells,idxVV,idxAAV,idxSV,sliceV,sliceSV,boundV,szIs,storeOp,storeS,setRowV,eff,extV,buildV,splice,eqSV,fitsL,eqCells,eqCell,minmaxV,capV,binBV,nilCheckV,bytesV,V.cells,V.stays,Orc.nothing,S4,upd_same])
    exact RetV.pure (s1.updK f4) rfl
end Go.Vc
namespace Go.Vc
open Go.Proofs
set_option maxRecDepth 100000 in
theorem outcomes_c : PFun Try.prog 21 [] (.agg [.nilfn, .fn 40 [], .fn 41 []]) := fun σ => by
  refine Contract.of_runs Try.func21 e21 k21 (by simp [c21]) ?_
  refine Runs.mix 2 ?_
  (refine Runs.of_step Orc.nothing 300 ?_; simp -implicitDefEqProofs only [BB,seval,← decide_not,okind,vpre,vpure,intBin,intPre,strBin,strPre,popTo,argSlots,fldV,fldAV,subCells,idxVV,idxAAV,idxSV,sliceV,sliceSV,boundV,szIs,storeOp,storeS,setRowV,eff,extV,buildV,splice,eqSV,fitsL,eqCells,eqCell,minmaxV,capV,binBV,nilCheckV,bytesV,V.cells,V.stays,Orc.nothing,c21])
  refine effR_new fun id1 σ1 s1 a1 f1 => ?_
  simp -implicitDefEqProofs only [BB,seval,← decide_not,okind,vpre,vpure,intBin,intPre,strBin,strPre,popTo,argSlots,fldV,fldAV,subCells,idxVV,idxAAV,idxSV,sliceV,sliceSV,boundV,szIs,storeOp,storeS,setRowV,eff,extV,buildV,splice,eqSV,fitsL,eqCells,eqCell,minmaxV,capV,binBV,nilCheckV,bytesV,V.cells,V.stays,a1]
  refine RetV.pure (s1.updK f1) rfl
def restyle (l : List Nd) (p : Nat) (s : Sty) : List Nd := match l[p]? with
  | some x => l.set p { x with st := s }
  | none => l
theorem restyle_length (l : List Nd) (p : Nat) (s : Sty) : (restyle l p s).length = l.length := by
  unfold restyle
  split <;> simp
def styleR (l : List Nd) (x : Ed) : Option (List Nd) :=
  if blockR l x.pos = false ∨ x.into ≠ 0 ∨ x.many ≠ 0 ∨ 0 < x.sub.length then none else some (restyle l x.pos.toNat x.st)
def optV (o : Option (List Nd)) : V := encNs (o.getD [])
def OptW (K σ : Store) (r : V) (o : Option (List Nd)) : Prop := ∃ v, r = .tup [v, .bool o.isSome] ∧ OutW K σ v (o.getD [])
theorem OptW.none {K σ : Store} : OptW K σ (.tup [.nils, .bool false]) none := ⟨_, rfl, OutW.nil⟩
theorem OptW.retv {K σ : Store} {r : V} {o : Option (List Nd)} (h : OptW K σ r o) (hs : SubStore K σ) : RetV r σ fun r σ' => r = .tup [optV o, .bool o.isSome] ∧ σ' = K := by
  obtain ⟨v, rfl, h⟩ := h
  exact ⟨_, K, hs, Wk.tup (by simp only [WkL]; exact ⟨h.wk (SubStore.refl K) hs, Wk.refl hs _, trivial⟩), rfl, rfl⟩
set_option maxRecDepth 100000 in
theorem style_w (x : Ed) (l : List Nd) (hl : Sml l) (σ : Store) : Contract Try.prog 41 [encH x l] σ fun r σ' => SubStore σ σ' ∧ OptW σ σ' r (styleR l x) := by
  have hl1 := hl.1
  refine Contract.of_runs Try.func41 e41 k41 (by simp [c41]) ?_
  refine Runs.mix 5 ?_
  (refine Runs.of_step Orc.nothing 300 ?_; simp -implicitDefEqProofs only [BB,seval,← decide_not,okind,vpre,vpure,intBin,intPre,strBin,strPre,popTo,argSlots,fldV,fldAV,subCells,idxVV,idxAAV,idxSV,sliceV,sliceSV,boundV,szIs,storeOp,storeS,setRowV,eff,extV,buildV,splice,eqSV,fitsL,eqCells,eqCell,minmaxV,capV,binBV,nilCheckV,bytesV,V.cells,V.stays,Orc.nothing,c41,encH,encNs_cells,encNs_stays])
  refine effR_new fun id1 σ1 s1 a1 f1 => ?_
  simp -implicitDefEqProofs only [BB,seval,← decide_not,okind,vpre,vpure,intBin,intPre,strBin,strPre,popTo,argSlots,fldV,fldAV,subCells,idxVV,idxAAV,idxSV,sliceV,sliceSV,boundV,szIs,storeOp,storeS,setRowV,eff,extV,buildV,splice,eqSV,fitsL,eqCells,eqCell,minmaxV,capV,binBV,nilCheckV,bytesV,V.cells,V.stays,a1,encNs_cells,encNs_stays]
  refine Runs.pcall rfl rfl rfl (block9_c x l _ _) ?_
  have hnone : styleR l x = none → RetV (.tup [.nils, .bool false]) σ1 fun r σ' => SubStore σ σ' ∧ OptW σ σ' r (styleR l x) := fun h => by
    rw [h]
    exact ⟨_, _, SubStore.refl _, Wk.refl (SubStore.refl _) _, s1, OptW.none⟩
  cases hbk : blockR l x.pos
  · (refine Runs.of_step Orc.nothing 300 ?_; simp -implicitDefEqProofs only [BB,seval,← decide_not,okind,vpre,vpure,intBin,intPre,strBin,strPre,popTo,argSlots,fldV,fldAV,subCells,idxVV,idxAAV,idxSV,sliceV,sliceSV,boundV,szIs,storeOp,storeS,setRowV,eff,extV,buildV,splice,eqSV,fitsL,eqCells,eqCell,minmaxV,capV,binBV,nilCheckV,bytesV,V.cells,V.stays,Orc.nothing,hbk,a1,encNs_cells,encNs_stays])
    refine hnone ?_
    rw [styleR, if_pos (.inl hbk)]
  · (refine Runs.of_step Orc.nothing 300 ?_; simp -implicitDefEqProofs only [BB,seval,← decide_not,okind,vpre,vpure,intBin,intPre,strBin,strPre,popTo,argSlots,fldV,fldAV,subCells,idxVV,idxAAV,idxSV,sliceV,sliceSV,boundV,szIs,storeOp,storeS,setRowV,eff,extV,buildV,splice,eqSV,fitsL,eqCells,eqCell,minmaxV,capV,binBV,nilCheckV,bytesV,V.cells,V.stays,Orc.nothing,hbk,a1,encNs_cells,encNs_stays,lenV_encNs])
    have hb2 := hbk
    simp only [blockR,Bool.and_eq_true] at hb2
    have hp := hasI_iff.1 hb2.1
    have hlt : x.pos.toNat < l.length := by omega
    refine And.intro (fun c1 => And.intro (fun c2 => And.intro (fun c3 => ?_) (fun c3 => ?_)) (fun c2 => ?_)) (fun c1 => ?_)
    · refine hnone ?_
      rw [styleR, if_pos (.inr (.inr (.inr (by omega))))]
    · have hsome : styleR l x = some (restyle l x.pos.toNat x.st) := by
        rw [styleR, if_neg]
        rintro (h | h | h | h)
        · rw [hbk] at h; cases h
        · omega
        · omega
        · omega
      rw [hsome]
      refine Runs.call rfl rfl rfl (own9_w l hl _) ?_
      rintro r σ2 ⟨hsub, rows, hout, hrw⟩
      have a1' := hsub _ _ a1
      have hn := hrw.len
      rcases hout with ⟨rfl, rfl⟩ | ⟨id, rfl, ho, hk⟩
      · simp at hn; omega
      · rw [hn]
        have hgl : l[x.pos.toNat]? = some l[x.pos.toNat] := List.getElem?_eq_getElem hlt
        obtain ⟨w, hrow, hw⟩ := hrw.get _ hgl
        have hc : 0 ≤ x.pos ∧ x.pos < (l.length : Int) := hp
        have hk' : σ1 id = none := hk
        have hid1 : id1 ≠ id := ne_new a1 hk'
        have hre : restyle l x.pos.toNat x.st = l.set x.pos.toNat { l[x.pos.toNat] with st := x.st } := by
          rw [restyle]
          simp only [List.getElem?_eq_getElem hlt]
        generalize l[x.pos.toNat] = y at *
        have hset : RowsW σ (upd σ2 id ⟨42, 20, rows.set x.pos.toNat (ndW { y with st := x.st } w)⟩) (l.set x.pos.toNat { y with st := x.st }) (rows.set x.pos.toNat (ndW { y with st := x.st } w)) :=
          ((hrw.set (x := { y with st := x.st }) hw x.pos.toNat).kept ho fun j hj o hjo => by rw [upd_ne hj]; exact hjo).lessK s1
        have fin : OptW σ (upd σ2 id ⟨42, 20, rows.set x.pos.toNat (ndW { y with st := x.st } w)⟩) (.tup [.own id 0 l.length, .bool true]) (some (restyle l x.pos.toNat x.st)) :=
          ⟨_, rfl, _, .inr ⟨id, by rw [List.length_set, hn], upd_same, s1.none hk'⟩, by rw [Option.getD_some, hre]; exact hset⟩
        have hs3 : SubStore σ (upd σ2 id ⟨42, 20, rows.set x.pos.toNat (ndW { y with st := x.st } w)⟩) := (s1.trans hsub).updK (s1.none hk')
        simp only [ndW] at hrow
        rcases hw with ⟨rfl, _⟩ | ⟨idw, rfl, _, _⟩
        · (refine Runs.of_step Orc.nothing 300 ?_; simp -implicitDefEqProofs only [BB,seval,← decide_not,okind,vpre,vpure,intBin,intPre,strBin,strPre,popTo,argSlots,fldV,fldAV,subCells,idxVV,idxAAV,idxSV,sliceV,sliceSV,boundV,szIs,storeOp,storeS,setRowV,eff,extV,buildV,splice,eqSV,fitsL,eqCells,eqCell,minmaxV,capV,binBV,nilCheckV,bytesV,V.cells,V.stays,Orc.nothing,a1',ho,hc,hn,hrow,Nd.cells,encNs_cells,encNs_stays])
          exact ⟨_, _, SubStore.refl _, Wk.refl (SubStore.refl _) _, hs3, fin⟩
        · (refine Runs.of_step Orc.nothing 300 ?_; simp -implicitDefEqProofs only [BB,seval,← decide_not,okind,vpre,vpure,intBin,intPre,strBin,strPre,popTo,argSlots,fldV,fldAV,subCells,idxVV,idxAAV,idxSV,sliceV,sliceSV,boundV,szIs,storeOp,storeS,setRowV,eff,extV,buildV,splice,eqSV,fitsL,eqCells,eqCell,minmaxV,capV,binBV,nilCheckV,bytesV,V.cells,V.stays,Orc.nothing,a1',ho,hc,hn,hrow,Nd.cells,encNs_cells,encNs_stays])
          exact ⟨_, _, SubStore.refl _, Wk.refl (SubStore.refl _) _, hs3, fin⟩
    · refine hnone ?_
      rw [styleR, if_pos (.inr (.inr (.inl (by omega))))]
    · refine hnone ?_
      rw [styleR, if_pos (.inr (.inl (by omega)))]
end Go.Vc
namespace Go.Vc
variable {P : Program} {n : Nat} {st : St} {Q : St → Prop} {k : List It}
def TC (P : Program) (i : VIns) (x : St) (K : St → Prop) : Prop := T P i x K ∨ (wantV x.s i.g = some true ∧ match i.op with
  | .call fx xs => ∃ f caps Post, fx.ev x.s = .fn f caps ∧ Contract P f (xs.map (·.ev x.s) ++ caps) x.σ Post ∧ ∀ r σ', Post r σ' → K ⟨putO x.s i.dst r, σ'⟩
  | _ => False)
theorem TC.mono {i : VIns} {x : St} {K K' : St → Prop} (hk : ∀ x, K x → K' x) (h : TC P i x K) : TC P i x K' := by
  rcases h with h | ⟨h1, h2⟩
  · exact .inl (h.mono hk)
  · refine .inr ⟨h1, ?_⟩
    split at h2
    · obtain ⟨f, caps, Post, g1, g2, g3⟩ := h2
      exact ⟨f, caps, Post, g1, g2, fun r σ' hp => hk _ (g3 r σ' hp)⟩
    · exact h2.elim
theorem TC_sound {F : Fr} (hn : F.n = n) {o : Oper} {all : Array Oper} {x : St} {K : St → Prop} {a : Act} {w : World} (h : TC P (cins P n all o) x K) (hs : SatF F x a w)
    {next : Act → World → Prop} {Q' : Exit → Act → World → Prop} (hnext : ∀ x' a' w', SatF F x' a' w' → K x' → next a' w') :
    if Region.wanted o (yielded all a.tmps) then cop P n o.op ≠ .bad ∧ o.wp P a w next Q' else next (a.put o.dst undef) w := by
  rcases h with h | ⟨hw, h⟩
  · exact T_sound hn h hs hnext
  subst hn
  obtain ⟨μ, hs⟩ := hs
  have hwant := want_of (P := P) hs all o hw
  rw [hwant]
  simp only [if_true]
  have hdst : (cins P F.n all o).dst = o.dst.filter (· < F.n) := rfl
  have hopc : (cins P F.n all o).op = cop P F.n o.op := rfl
  rw [hdst, hopc] at h
  split at h
  · rename_i fx xs hop
    refine ⟨fun e => ?_, ?_⟩
    · rw [hop] at e; cases e
    obtain ⟨f, caps, Post, h1, h2, h3⟩ := h
    obtain ⟨f0, args, argTypes, g1, rfl, rfl⟩ := cop_call hop
    refine call_sound hs g1 h1 h2 fun r σ' hp a' w' hs' => ?_
    exact hnext _ a' w' hs' (h3 r σ' hp)
  · exact h.elim
def TnC (P : Program) (n : Nat) (ops : Array Oper) (i : Nat) (x : St) (K : St → Prop) : Prop := match ops[i]? with
  | some o => TC P (cins P n ops o) x K
  | none => K x
def wpAnyTC (P : Program) (n : Nat) (ops : Array Oper) (Q : St → Prop) : Nat → Array Bool → St → Prop
  | 0, listed, x => Region.ready .any ops listed = [] ∧ Q x
  | f + 1, listed, x => (Region.ready .any ops listed = [] → Q x) ∧ ∀ i ∈ Region.ready .any ops listed, TnC P n ops i x (wpAnyTC P n ops Q f (listed.setIfInBounds i true))
theorem wpAny_of_TC {F : Fr} (hn : F.n = n) {ops : Array Oper} {Q : St → Prop} {Q' : Exit → Act → World → Prop} (hQ : ∀ x a w, SatF F x a w → Q x → Q' .normal a w) :
    ∀ (f : Nat) (listed : Array Bool) (x : St) (a : Act) (w : World), SatF F x a w → wpAnyTC P n ops Q f listed x → wpAnyIn F.fence 0 P .any ops Q' f listed a w
  | 0, _, _, _, _, hs, h => ⟨h.1, hQ _ _ _ hs h.2⟩
  | f + 1, listed, x, a, w, hs, h => by
    refine ⟨fun h0 => hQ _ _ _ hs (h.1 h0), fun i hi => ?_⟩
    have h1 := h.2 i hi
    unfold TnC at h1
    unfold wpOpIn
    cases ho : ops[i]? with
    | none =>
      simp only [ho] at h1
      exact wpAny_of_TC hn hQ f _ x a w hs h1
    | some o =>
      simp only [ho] at h1
      have h2 := TC_sound (Q' := Q') hn h1 hs fun x' a' w' hs' hk => wpAny_of_TC hn hQ f _ x' a' w' hs' hk
      by_cases hw : Region.wanted o (yielded ops a.tmps) = true
      · rw [if_pos hw] at h2
        simp only [hw, if_true]
        exact opIn (cop_defer h2.1) h2.2
      · rw [if_neg hw] at h2
        simp only [hw]
        exact ⟨fun _ _ => trivial, h2⟩
def allVC (P : Program) (l : List VIns) (rec : List Nat → St → Prop) (listed : List Nat) (x : St) : List Nat → Prop
  | [] => True
  | i :: is => (match l[i]? with
      | some ins => TC P ins x (rec (i :: listed))
      | none => False) ∧ allVC P l rec listed x is
def anyVC (P : Program) (l : List VIns) (deps : List (List Nat)) (Q : St → Prop) : Nat → List Nat → St → Prop
  | 0, listed, x => readyV deps listed = [] ∧ Q x
  | f + 1, listed, x => match readyV deps listed with
      | [] => Q x
      | i :: is => allVC P l (anyVC P l deps Q f) listed x (i :: is)
theorem allV_memC {l : List VIns} {rec : List Nat → St → Prop} {listed : List Nat} {x : St} : ∀ {is : List Nat}, allVC P l rec listed x is → ∀ i ∈ is, ∃ ins, l[i]? = some ins ∧ TC P ins x (rec (i :: listed))
  | [], _, _, hi => by cases hi
  | j :: is, h, i, hi => by
    obtain ⟨h1, h2⟩ := h
    rcases List.mem_cons.1 hi with rfl | hi
    · cases hl : l[i]? with
      | none => rw [hl] at h1; exact h1.elim
      | some ins => rw [hl] at h1; exact ⟨ins, rfl, h1⟩
    · exact allV_memC h2 i hi
theorem wpAnyT_of_anyVC {ops : Array Oper} {Q : St → Prop} : ∀ (f : Nat) (arr : Array Bool) (listed : List Nat) (x : St), arr.size = ops.size → (∀ i, i < ops.size → arr.getD i true = listed.contains i) →
    (∀ i ∈ listed, i < ops.size) → anyVC P (ops.toList.map (cins P n ops)) (depsOf ops) Q f listed x → wpAnyTC P n ops Q f arr x
  | 0, arr, listed, x, hs, hl, ho, h => ⟨by rw [readyV_eq hs hl ho]; exact h.1, h.2⟩
  | f + 1, arr, listed, x, hs, hl, ho, h => by
    have hr := readyV_eq hs hl ho
    unfold anyVC at h
    refine ⟨fun h0 => ?_, fun i hi => ?_⟩
    · rw [hr] at h0
      rw [h0] at h
      exact h
    · rw [hr] at hi
      have hlt : i < ops.size := by
        have := (List.mem_filter.1 hi).1
        simpa [depsOf] using this
      have hall : allVC P (ops.toList.map (cins P n ops)) (anyVC P (ops.toList.map (cins P n ops)) (depsOf ops) Q f) listed x (readyV (depsOf ops) listed) := by
        cases hrr : readyV (depsOf ops) listed with
        | nil => exact trivial
        | cons j js => rw [hrr] at h; exact h
      obtain ⟨ins, h1, h2⟩ := allV_memC hall i hi
      have h3 : ops[i]? = some ops[i] := Array.getElem?_eq_getElem hlt
      have h4 : ins = cins P n ops ops[i] := by simpa [hlt] using h1.symm
      unfold TnC
      simp only [h3]
      rw [← h4]
      refine h2.mono fun x' hx' => wpAnyT_of_anyVC f _ (i :: listed) x' (by simpa using hs) (fun j hj => ?_) (fun j hj => ?_) hx'
      · by_cases e : j = i
        · subst e
          rw [Array.getD_eq_getD_getElem?, Array.getElem?_setIfInBounds_self_of_lt (by omega)]
          simp
        · rw [Array.getD_eq_getD_getElem?, Array.getElem?_setIfInBounds_ne (fun e' => e e'.symm), ← Array.getD_eq_getD_getElem?, hl j hj]
          simp [e]
      · rcases List.mem_cons.1 hj with rfl | hj
        · exact hlt
        · exact ho j hj
theorem Runs.regAC (hm : P.follows .mixedOrders = true) {l : List VIns} {deps : List (List Nat)} (h : anyVC P l deps (fun x => Runs P n k x Q) l.length [] st) : Runs P n (.code (.regA l deps) :: k) st Q := by
  intro F hn kt hk a w hs
  obtain ⟨z, kt', rfl, hy, hk'⟩ := kt_cons hk
  obtain ⟨c0, rfl, hcc⟩ := it_code hy
  have hc0 : ∃ id ops, c0 = .region id ops true ∧ ops.toList.map (cins P n ops) = l ∧ depsOf ops = deps := by
    cases c0 <;> simp only [ccode, reduceCtorEq] at hcc
    rename_i id ops draw
    cases draw
    · simp at hcc
    · simp only [Bool.true_and] at hcc
      split at hcc
      · cases hcc
      split at hcc
      · simp only [VCode.regA.injEq] at hcc
        exact ⟨id, ops, rfl, hcc.1, hcc.2⟩
      · simp at hcc
  obtain ⟨id, ops, rfl, rfl, rfl⟩ := hc0
  have hs' : SatF F st a { w with drawn := w.drawn + 1 } := by
    obtain ⟨μ, hs⟩ := hs
    have hk : Keeps (Owned μ st.σ) (Owned μ st.σ) w { w with drawn := w.drawn + 1 } := fun _ _ h => ⟨h, rfl⟩
    refine ⟨μ, ⟨⟨hs.sat.size, hs.sat.os, hs.sat.tape, hs.sat.output, hs.sat.same, hs.sat.fin, hs.sat.inj, fun id o ho => ?_, hs.sat.fresh, hs.sat.glob⟩, hs.le, hs.size, hs.book.keep hk, fun i hi => ?_⟩⟩
    · exact (hs.sat.obj id o ho).mono (MuLe.refl μ) hk (Nat.le_refl _) (fun _ _ _ _ => rfl)
    · exact Rep.mono (MuLe.refl μ) hk (Nat.le_refl _) _ _ (hs.slot i hi)
  refine wpIn_region_any hm (wpAny_of_TC (Q := fun x => Runs P n k x Q) hn (fun x a w hs h => h F hn kt' hk' a w hs) _ _ _ _ _ hs' ?_)
  have := wpAnyT_of_anyVC (P := P) (n := n) (Q := fun x => Runs P n k x Q) (ops := ops) ops.size (Array.replicate ops.size false) [] st (by simp) (fun i hi => by
    rw [Array.getD_eq_getD_getElem?, Array.getElem?_replicate, if_pos hi]; simp) (by simp) (by simpa using h)
  exact this
theorem allV_ofC {l : List VIns} {rec : List Nat → St → Prop} {listed : List Nat} {x : St} : ∀ {is : List Nat}, (∀ i ∈ is, ∃ ins, l[i]? = some ins ∧ TC P ins x (rec (i :: listed))) → allVC P l rec listed x is
  | [], _ => trivial
  | j :: is, h => by
    obtain ⟨ins, h1, h2⟩ := h j (by simp)
    refine ⟨by rw [h1]; exact h2, allV_ofC fun i hi => h i (by simp [hi])⟩
end Go.Vc
namespace Go.Vc
variable {P : Program} {n : Nat} {st : St} {Q : St → Prop} {k : List It}
def QYd (P : Program) (i : VIns) (x : St) : Prop := match i.dst with
  | some d => QY P i x.s x.σ (x.s d)
  | none => ∃ v, QY P i x.s x.σ v
def RE (P : Program) (l : List VIns) (K : St → Prop) : List Nat → St → Prop
  | [], x => K x
  | m :: its, x => match l[m / 2]? with
    | none => False
    | some ins => if m % 2 = 0 then TC P ins x (RE P l K its) else QYd P ins x ∧ RE P l K its x
def insAt (l : List VIns) (i : Nat) : VIns := (l[i]?).getD ⟨none, .bad, none⟩
def befAt (bef : List (List Nat)) (i : Nat) : List Nat := bef.getD i []
def isEff (l : List VIns) (bef : List (List Nat)) (j : Nat) : Bool := okind (insAt l j).op != 0 || (match (insAt l j).dst with
  | some d => (List.range l.length).any fun i => (insAt l i).uses.contains d && !(befAt bef i).contains j
  | none => false)
def chks (l : List VIns) (bef : List (List Nat)) (done : List Nat) (e : Nat) : List Nat :=
  if isEff l bef e then done.filterMap fun k => if !(isEff l bef k) && (!(sfree (insAt l k).op) && !((befAt bef e).contains k)) then some (2 * k + 1) else none else []
def itemsF (l : List VIns) (bef : List (List Nat)) : List Nat → List Nat → List Nat
  | _, [] => []
  | done, e :: r => 2 * e :: (chks l bef done e ++ itemsF l bef (done ++ [e]) r)
def pairsB (p : Nat → Nat → Bool) : List Nat → Bool
  | [] => true
  | a :: r => r.all (p a) && pairsB p r
theorem pairsB_spec {p : Nat → Nat → Bool} : ∀ {a : List Nat} {b : List Nat} {x y : Nat}, pairsB p (a ++ b) = true → x ∈ a → y ∈ b → p x y = true
  | [], _, _, _, _, h, _ => by cases h
  | c :: a, b, x, y, hp, hx, hy => by
    simp only [List.cons_append, pairsB, Bool.and_eq_true] at hp
    rcases List.mem_cons.1 hx with rfl | hx
    · exact List.all_eq_true.1 hp.1 y (List.mem_append_right _ hy)
    · exact pairsB_spec hp.2 hx hy
def aheadB (f : Nat → List Nat) : List Nat → List Nat → Bool
  | _, [] => true
  | done, e :: r => (f e).all done.contains && aheadB f (done ++ [e]) r
theorem aheadB_spec {f : Nat → List Nat} : ∀ {r done : List Nat} {a : List Nat} {e : Nat} {b : List Nat}, aheadB f done r = true → r = a ++ e :: b → ∀ x ∈ f e, x ∈ done ++ a
  | [], _, a, e, b, _, h, _, _ => by simp at h
  | c :: r, done, [], e, b, hB, h, x, hx => by
    simp only [List.nil_append, List.cons.injEq] at h
    obtain ⟨rfl, rfl⟩ := h
    simp only [aheadB, Bool.and_eq_true] at hB
    simpa using List.all_eq_true.1 hB.1 x hx
  | c :: r, done, d :: a, e, b, hB, h, x, hx => by
    simp only [List.cons_append, List.cons.injEq] at h
    obtain ⟨rfl, rfl⟩ := h
    simp only [aheadB, Bool.and_eq_true] at hB
    have := aheadB_spec hB.2 rfl x hx
    simpa using this
def eOk (l : List VIns) (deps bef : List (List Nat)) (ord : List Nat) : Bool :=
  (decide (ord.length = l.length) && (decide (deps.length = l.length) && ord.all fun i => decide (i < l.length))) &&
  (pairsB (fun a b => decide (a ≠ b)) ord &&
  (aheadB (fun i => deps.getD i []) [] ord &&
  ((List.range l.length).all (fun j => (befAt bef j).all fun i => (deps.getD j []).any fun d => d == i || (befAt bef d).contains i) &&
  ((List.range l.length).all (fun i => (List.range l.length).all fun j => i == j || ((insAt l i).dst.isNone || (insAt l i).dst != (insAt l j).dst)) &&
  ((List.range l.length).all (fun i => (List.range l.length).all fun j => i == j || (match (insAt l j).dst with
      | some d => !((insAt l i).uses.contains d) || ((befAt bef i).contains j || (isEff l bef j && (befAt bef j).contains i))
      | none => true)) &&
  pairsB (fun a b => !(isEff l bef a) || (befAt bef b).contains a) ord)))))
theorem nodup_pairs : ∀ {l : List Nat}, pairsB (fun a b => decide (a ≠ b)) l = true → l.Nodup
  | [], _ => List.nodup_nil
  | a :: r, h => by
    simp only [pairsB, Bool.and_eq_true] at h
    refine List.nodup_cons.2 ⟨fun hm => ?_, nodup_pairs h.2⟩
    have := List.all_eq_true.1 h.1 a hm
    simp at this
structure EOk (l : List VIns) (deps bef : List (List Nat)) (ord : List Nat) : Prop where
  len : ord.length = l.length
  dlen : deps.length = l.length
  lt : ∀ i ∈ ord, i < l.length
  nodup : ord.Nodup
  ahead : ∀ a e b, ord = a ++ e :: b → ∀ x ∈ deps.getD e [], x ∈ a
  anc : ∀ j, j < l.length → ∀ i ∈ befAt bef j, ∃ d ∈ deps.getD j [], d = i ∨ i ∈ befAt bef d
  dsts : ∀ i j, i < l.length → j < l.length → i ≠ j → ∀ d, (insAt l i).dst = some d → (insAt l j).dst ≠ some d
  anti : ∀ i j, i < l.length → j < l.length → i ≠ j → ∀ d, (insAt l j).dst = some d → d ∈ (insAt l i).uses → j ∈ befAt bef i ∨ (isEff l bef j = true ∧ i ∈ befAt bef j)
  effs : ∀ a b x y, ord = a ++ b → x ∈ a → y ∈ b → isEff l bef x = true → x ∈ befAt bef y
theorem eOk_spec {l : List VIns} {deps bef : List (List Nat)} {ord : List Nat} (h : eOk l deps bef ord = true) : EOk l deps bef ord := by
  simp only [eOk, Bool.and_eq_true, decide_eq_true_eq] at h
  obtain ⟨⟨h1, h2, h3⟩, h4, h5, h6, h7, h8, h9⟩ := h
  refine ⟨h1, h2, fun i hi => by simpa using List.all_eq_true.1 h3 i hi, nodup_pairs h4, fun a e b he x hx => by simpa using aheadB_spec h5 he x hx, ?_, ?_, ?_, ?_⟩
  · intro j hj i hi
    have := List.all_eq_true.1 (List.all_eq_true.1 h6 j (by simpa using hj)) i hi
    simp only [List.any_eq_true, Bool.or_eq_true, beq_iff_eq, List.contains_iff_mem] at this
    exact this
  · intro i j hi hj hne d hd he
    have := List.all_eq_true.1 (List.all_eq_true.1 h7 i (by simpa using hi)) j (by simpa using hj)
    simp only [Bool.or_eq_true, beq_iff_eq, hd, he, Option.isNone_some, bne_self_eq_false, Bool.false_eq_true, or_false] at this
    exact hne this
  · intro i j hi hj hne d hd hu
    have := List.all_eq_true.1 (List.all_eq_true.1 h8 i (by simpa using hi)) j (by simpa using hj)
    simp only [Bool.or_eq_true, beq_iff_eq, hd, Bool.and_eq_true, Bool.not_eq_true', List.contains_iff_mem] at this
    rcases this with h | h | h
    · exact absurd h hne
    · have hc : (insAt l i).uses.contains d = true := List.contains_iff_mem.2 hu
      rw [hc] at h; cases h
    · exact h
  · intro a b x y he hx hy hxe
    rw [he] at h9
    have := pairsB_spec h9 hx hy
    simp only [hxe, Bool.not_true, Bool.false_or, List.contains_iff_mem] at this
    exact this
theorem EOk.closed {l : List VIns} {deps bef : List (List Nat)} {ord : List Nat} (h : EOk l deps bef ord) {L : List Nat} (hc : ∀ m ∈ L, ∀ d ∈ deps.getD m [], d ∈ L) (hmem : ∀ i, i < l.length → i ∈ ord) :
    ∀ (m : Nat) (a : List Nat) (j : Nat) (b : List Nat), a.length < m → ord = a ++ j :: b → (∀ d ∈ deps.getD j [], d ∈ L) → ∀ i ∈ befAt bef j, i ∈ L := by
  intro m
  induction m with
  | zero => intro a j b ha; omega
  | succ m ih =>
    intro a j b ha he hd i hi
    have hj : j < l.length := h.lt j (by rw [he]; simp)
    obtain ⟨d, h1, h2⟩ := h.anc j hj i hi
    rcases h2 with rfl | h2
    · exact hd d h1
    · have hda := h.ahead a j b he d h1
      obtain ⟨a1, a2, rfl⟩ := List.append_of_mem hda
      exact ih a1 d (a2 ++ j :: b) (by simp at ha; omega) (by rw [he]; simp) (fun d' h' => hc d (hd d h1) d' h') i h2
theorem wantV_congr {i : VIns} {s s' : Nat → V} (h : ∀ u ∈ i.uses, s u = s' u) : wantV s i.g = wantV s' i.g := by
  cases hg : i.g with
  | none => rfl
  | some g =>
    obtain ⟨x, b⟩ := g
    have : x.ev s = x.ev s' := by
      cases x with
      | t t => exact h t (List.mem_filterMap.2 ⟨.t t, List.mem_append_right _ (by simp [hg]), rfl⟩)
      | c v => rfl
    simp only [wantV, this]
theorem xs_congr {i : VIns} {s s' : Nat → V} (h : ∀ u ∈ i.uses, s u = s' u) : ∀ x ∈ i.op.xs, x.ev s = x.ev s' := fun x hx => by
  cases x with
  | t t => exact h t (uses_op hx rfl)
  | c v => rfl
theorem QY_congr {i : VIns} {s s' : Nat → V} {σ : Store} {v : V} (h : ∀ u ∈ i.uses, s u = s' u) (hq : QY P i s σ v) : QY P i s' σ v := by
  unfold QY at *
  rw [← wantV_congr h]
  exact hq.imp (fun ⟨h1, h2⟩ => ⟨h1, QO_congr (xs_congr h) h2⟩) id
theorem TC_congr {i : VIns} {x y : St} {K K' : St → Prop} (h : ∀ u ∈ i.uses, x.s u = y.s u) (hσ : x.σ = y.σ) (hk : ∀ r σ', K ⟨putO x.s i.dst r, σ'⟩ → K' ⟨putO y.s i.dst r, σ'⟩) (ht : TC P i x K) : TC P i y K' := by
  have hx := xs_congr h
  rcases ht with ht | ⟨hw, ht⟩
  · refine .inl ?_
    unfold T at *
    rw [← wantV_congr h]
    split <;> rename_i ho <;> simp only [ho] at ht
    · unfold TO at *
      split <;> rename_i hk0 <;> simp only [hk0] at ht
      · obtain ⟨g1, v, g2, g3⟩ := ht
        obtain ⟨e1, e2⟩ := vpure_congr (σ := y.σ) hx
        exact ⟨e2.1 g1, v, by rw [← e1, ← hσ]; exact g2, by rw [← hσ]; exact hk _ _ g3⟩
      · split at ht
        · rename_i fx xs hop
          obtain ⟨f, caps, v, g1, g2, g3⟩ := ht
          refine ⟨f, caps, v, ?_, ?_, by rw [← hσ]; exact hk _ _ g3⟩
          · rw [← hx fx (by rw [hop]; simp [VOp.xs])]; exact g1
          · rw [← map_ev (s := x.s) (s' := y.s) fun z hz => hx z (by rw [hop]; simp [VOp.xs, hz]), ← hσ]; exact g2
        · exact ht.elim
      · split at ht
        · rename_i sz xa xv hop
          obtain ⟨σ', g1, g2⟩ := ht
          refine ⟨σ', ?_, hk _ _ g2⟩
          rw [← hx xa (by rw [hop]; simp [VOp.xs]), ← hx xv (by rw [hop]; simp [VOp.xs]), ← hσ]; exact g1
        · exact ht.elim
      · obtain ⟨g, g1, g2⟩ := ht
        refine ⟨g, by rw [← eff_congr hx, ← hσ]; exact g1, fun id hid => hk _ _ (g2 id (by rw [hσ]; exact hid))⟩
    · rw [← hσ]; exact hk _ _ ht
  · refine .inr ⟨by rw [← wantV_congr h]; exact hw, ?_⟩
    split at ht
    · rename_i fx xs hop
      obtain ⟨f, caps, Post, g1, g2, g3⟩ := ht
      refine ⟨f, caps, Post, ?_, ?_, fun r σ' hp => hk _ _ (g3 r σ' hp)⟩
      · rw [← hx fx (by rw [hop]; simp [VOp.xs])]; exact g1
      · rw [← map_ev (s := x.s) (s' := y.s) fun z hz => hx z (by rw [hop]; simp [VOp.xs, hz]), ← hσ]; exact g2
    · exact ht.elim
structure ELag (P : Program) (l : List VIns) (deps bef : List (List Nat)) (ord : List Nat) (K : St → Prop) (L : List Nat) (y : St) (done rest : List Nat) (x : St) : Prop where
  split : ord = done ++ rest
  sub : ∀ i ∈ L, i ∈ done
  nodup : L.Nodup
  closed : ∀ m ∈ L, ∀ d ∈ deps.getD m [], d ∈ L
  effs : ∀ i ∈ done, isEff l bef i = true → i ∈ L
  store : y.σ = x.σ
  slot : ∀ d, (∀ i ∈ done, i ∉ L → (insAt l i).dst ≠ some d) → y.s d = x.s d
  lag : ∀ i ∈ done, i ∉ L → QYd P (insAt l i) x
  go : RE P l K (itemsF l bef done rest) x
theorem isEff_plain {l : List VIns} {bef : List (List Nat)} {e : Nat} (h : isEff l bef e = false) (he : e < l.length) (hne : e ∉ befAt bef e) : okind (insAt l e).op = 0 ∧ ∀ d, (insAt l e).dst = some d → d ∉ (insAt l e).uses := by
  simp only [isEff, Bool.or_eq_false_iff, bne_eq_false_iff_eq] at h
  refine ⟨h.1, fun d hd hu => ?_⟩
  have h2 := h.2
  rw [hd] at h2
  simp only [List.any_eq_false, List.mem_range, Bool.and_eq_true, Bool.not_eq_true', not_and, Bool.not_eq_false] at h2
  have := h2 e he (List.contains_iff_mem.2 hu)
  exact hne (List.contains_iff_mem.1 this)
theorem RE_op {l : List VIns} {K : St → Prop} {e : Nat} {its : List Nat} {x : St} (he : e < l.length) : RE P l K (2 * e :: its) x ↔ TC P (insAt l e) x (RE P l K its) := by
  have h1 : 2 * e / 2 = e := by omega
  have h2 : 2 * e % 2 = 0 := by omega
  rw [RE, h1, List.getElem?_eq_getElem he]
  simp only [if_pos h2, insAt, List.getElem?_eq_getElem he, Option.getD_some]
theorem RE_chk {l : List VIns} {K : St → Prop} {e : Nat} {its : List Nat} {x : St} (he : e < l.length) : RE P l K ((2 * e + 1) :: its) x ↔ QYd P (insAt l e) x ∧ RE P l K its x := by
  have h1 : (2 * e + 1) / 2 = e := by omega
  have h2 : ¬ (2 * e + 1) % 2 = 0 := by omega
  rw [RE, h1, List.getElem?_eq_getElem he]
  simp only [if_neg h2, insAt, List.getElem?_eq_getElem he, Option.getD_some]
theorem RE_chks {l : List VIns} {K : St → Prop} {its : List Nat} {x : St} (p : Nat → Bool) : ∀ {done : List Nat}, (∀ i ∈ done, i < l.length) → RE P l K ((done.filterMap fun k => if p k then some (2 * k + 1) else none) ++ its) x →
    (∀ k ∈ done, p k = true → QYd P (insAt l k) x) ∧ RE P l K its x
  | [], _, h => ⟨by simp, h⟩
  | a :: r, hl, h => by
    rw [List.filterMap_cons] at h
    cases hp : p a with
    | false =>
      simp only [hp, Bool.false_eq_true, if_false] at h
      obtain ⟨h1, h2⟩ := RE_chks p (fun i hi => hl i (by simp [hi])) h
      refine ⟨fun k hk hpk => ?_, h2⟩
      rcases List.mem_cons.1 hk with rfl | hk
      · rw [hp] at hpk; cases hpk
      · exact h1 k hk hpk
    | true =>
      simp only [hp, if_true, List.cons_append] at h
      rw [RE_chk (hl a (by simp))] at h
      obtain ⟨h1, h2⟩ := RE_chks p (fun i hi => hl i (by simp [hi])) h.2
      refine ⟨fun k hk hpk => ?_, h2⟩
      rcases List.mem_cons.1 hk with rfl | hk
      · exact h.1
      · exact h1 k hk hpk
section
variable {l : List VIns} {deps bef : List (List Nat)} {ord : List Nat} {K : St → Prop} (hE : EOk l deps bef ord)
include hE
theorem EOk.mem (i : Nat) (hi : i < l.length) : i ∈ ord := (pigeon l.length ord hE.nodup hE.lt).2 hE.len i hi
theorem EOk.befAhead {a : List Nat} {j : Nat} {b : List Nat} (he : ord = a ++ j :: b) : ∀ i ∈ befAt bef j, i ∈ a := by
  have hc : ∀ m ∈ a, ∀ d ∈ deps.getD m [], d ∈ a := fun m hm d hd => by
    obtain ⟨a1, a2, rfl⟩ := List.append_of_mem hm
    have := hE.ahead a1 m (a2 ++ j :: b) (by rw [he]; simp) d hd
    simp [this]
  exact hE.closed hc hE.mem (a.length + 1) a j b (by omega) he (fun d hd => hE.ahead a j b he d hd)
theorem EOk.notSelf {j : Nat} (hj : j < l.length) : j ∉ befAt bef j := fun h => by
  obtain ⟨a, b, he⟩ := List.append_of_mem (hE.mem j hj)
  have h1 := hE.befAhead he j h
  have := hE.nodup
  rw [he] at this
  have := (List.nodup_append.1 this).2.2 j h1 j (by simp)
  exact this rfl
theorem QYd_put {i : Nat} {x : St} {e : Nat} {v : V} {σ' : Store} (hi : i < l.length) (he : e < l.length) (hne : i ≠ e) (hu : ∀ d, (insAt l e).dst = some d → d ∉ (insAt l i).uses)
    (hq : ∀ v, QY P (insAt l i) x.s x.σ v → QY P (insAt l i) x.s σ' v) (h : QYd P (insAt l i) x) : QYd P (insAt l i) ⟨putO x.s (insAt l e).dst v, σ'⟩ := by
  unfold QYd at *
  have hq' : ∀ v', QY P (insAt l i) x.s x.σ v' → QY P (insAt l i) (putO x.s (insAt l e).dst v) σ' v' := fun v' hv => (QY_put hu).2 (hq v' hv)
  cases hd : (insAt l i).dst with
  | none => rw [hd] at h; obtain ⟨v', h⟩ := h; exact ⟨v', hq' v' h⟩
  | some d =>
    rw [hd] at h
    simp only at h ⊢
    have : putO x.s (insAt l e).dst v d = x.s d := by
      have := hE.dsts i e hi he hne d hd
      cases hde : (insAt l e).dst with
      | none => rfl
      | some d' =>
        rw [hde] at this
        simp only [putO]
        rw [if_neg (fun e' => this (by rw [e']))]
    rw [this]
    exact hq' _ h
theorem ELag.adv {L : List Nat} {y : St} : ∀ {rest done : List Nat} {x : St}, ELag P l deps bef ord K L y done rest x →
    ∃ done' rest' x', ELag P l deps bef ord K L y done' rest' x' ∧ ∀ h r, rest' = h :: r → isEff l bef h = true
  | [], done, x, h => ⟨done, [], x, h, by simp⟩
  | e :: rest, done, x, h => by
    cases heff : isEff l bef e with
    | true => exact ⟨done, e :: rest, x, h, fun a r he => by cases he; exact heff⟩
    | false =>
      have hel : e < l.length := hE.lt e (by rw [h.split]; simp)
      obtain ⟨hk, hself⟩ := isEff_plain heff hel (hE.notSelf hel)
      have hnd := hE.nodup
      rw [h.split] at hnd
      have hed : e ∉ done := fun hm => (List.nodup_append.1 hnd).2.2 e hm e (by simp) rfl
      have heL : e ∉ L := fun hm => hed (h.sub e hm)
      have hgo := h.go
      rw [itemsF, RE_op hel, chks, if_neg (by simp [heff]), List.nil_append] at hgo
      have hT : T P (insAt l e) x (RE P l K (itemsF l bef (done ++ [e]) rest)) := by
        rcases hgo with hgo | ⟨_, hgo⟩
        · exact hgo
        · exfalso
          revert hgo hk
          generalize (insAt l e).op = op
          intro hk hgo
          split at hgo
          · simp [okind] at hk
          · exact hgo
      obtain ⟨v, hv, hgo'⟩ := (T_quiet (by simp [quietI, hk])).1 hT
      refine ELag.adv (rest := rest) (done := done ++ [e]) (x := ⟨putO x.s (insAt l e).dst v, x.σ⟩) ⟨by rw [h.split]; simp, fun i hi => by simp [h.sub i hi], h.nodup, h.closed, fun i hi hie => ?_, h.store, fun d hd => ?_, fun i hi hiL => ?_, hgo'⟩
      · rcases List.mem_append.1 hi with hi | hi
        · exact h.effs i hi hie
        · simp only [List.mem_singleton] at hi; rw [hi, heff] at hie; cases hie
      · have h1 := h.slot d fun i hi hiL => hd i (by simp [hi]) hiL
        have h2 := hd e (by simp) heL
        rw [h1]
        simp only
        cases hde : (insAt l e).dst with
        | none => rfl
        | some d' =>
          rw [hde] at h2
          simp only [putO]
          rw [if_neg (fun e' => h2 (by rw [e']))]
      · by_cases hie : i = e
        · subst hie
          unfold QYd
          cases hd : (insAt l i).dst with
          | none => exact ⟨v, hv⟩
          | some d =>
            simp only
            have e1 : putO x.s (some d) v d = v := by simp [putO]
            rw [e1]
            exact (QY_put (fun t ht => by cases ht; exact hself d hd)).2 hv
        · have hid : i ∈ done := by
            rcases List.mem_append.1 hi with hi | hi
            · exact hi
            · simp only [List.mem_singleton] at hi; exact absurd hi hie
          have hil : i < l.length := hE.lt i (by rw [h.split]; simp [hid])
          refine QYd_put hE hil hel hie (fun d hd hu => ?_) (fun v hv => hv) (h.lag i hid hiL)
          rcases hE.anti i e hil hel hie d hd hu with h1 | ⟨h1, _⟩
          · obtain ⟨a, b, hab⟩ := List.append_of_mem hid
            have h2 := hE.befAhead (a := a) (j := i) (b := b ++ e :: rest) (by rw [h.split, hab]; simp) e h1
            exact hed (by rw [hab]; simp [h2])
          · rw [heff] at h1; cases h1
theorem anyVC_of_lag : ∀ (f : Nat) (L : List Nat) (y : St) (done rest : List Nat) (x : St), f + L.length = l.length → ELag P l deps bef ord K L y done rest x → anyVC P l deps K f L y := by
  intro f
  induction f with
  | zero =>
    intro L y done rest x hf h
    have hall : ∀ i, i < l.length → i ∈ L := (pigeon l.length L h.nodup fun i hi => hE.lt i (by rw [h.split]; simp [h.sub i hi])).2 (by omega)
    have hnd := hE.nodup
    rw [h.split] at hnd
    have hrest : rest = [] := by
      cases rest with
      | nil => rfl
      | cons e r =>
        exfalso
        have hel : e < l.length := hE.lt e (by rw [h.split]; simp)
        exact (List.nodup_append.1 hnd).2.2 e (h.sub e (hall e hel)) e (by simp) rfl
    subst hrest
    have hyx : y = x := by
      obtain ⟨s, σ⟩ := y
      obtain ⟨s', σ'⟩ := x
      have h1 : σ = σ' := h.store
      have h2 : s = s' := funext fun d => h.slot d fun i hi hiL => absurd (hall i (hE.lt i (by rw [h.split]; simp [hi]))) hiL
      rw [h1, h2]
    refine ⟨?_, by rw [hyx]; exact h.go⟩
    unfold readyV
    rw [List.filter_eq_nil_iff]
    intro i hi
    simp only [List.mem_range, hE.dlen] at hi
    simp [hall i hi]
  | succ f ih =>
    intro L y done rest x hf h
    obtain ⟨done, rest, x, h, hhead⟩ := ELag.adv hE h
    have hnd := hE.nodup
    rw [h.split] at hnd
    have hmemL : ∀ i ∈ L, i < l.length := fun i hi => hE.lt i (by rw [h.split]; simp [h.sub i hi])
    have key : allVC P l (anyVC P l deps K f) L y (readyV deps L) := by
      refine allV_ofC fun i hi => ?_
      obtain ⟨hil, hiL, hdep⟩ := readyV_mem hi
      rw [hE.dlen] at hil
      refine ⟨insAt l i, by simp [insAt, List.getElem?_eq_getElem hil], ?_⟩
      obtain ⟨pa, pb, hpe⟩ := List.append_of_mem (hE.mem i hil)
      have hbefL : ∀ j ∈ befAt bef i, j ∈ L := hE.closed h.closed hE.mem (pa.length + 1) pa i pb (by omega) hpe hdep
      have huses : ∀ u ∈ (insAt l i).uses, x.s u = y.s u := fun u hu => (h.slot u fun j hj hjL hd => by
        have hjl : j < l.length := hE.lt j (by rw [h.split]; simp [hj])
        by_cases hji : j = i
        · subst hji
          cases hje : isEff l bef j with
          | true => exact hjL (h.effs j hj hje)
          | false => exact (isEff_plain hje hjl (hE.notSelf hjl)).2 u hd hu
        · rcases hE.anti i j hil hjl (fun e => hji e.symm) u hd hu with h1 | ⟨h1, _⟩
          · exact hjL (hbefL j h1)
          · exact hjL (h.effs j hj h1)).symm
      by_cases hid : i ∈ done
      · have hie : isEff l bef i = false := by
          cases hie : isEff l bef i with
          | false => rfl
          | true => exact absurd (h.effs i hid hie) hiL
        obtain ⟨hk, _⟩ := isEff_plain hie hil (hE.notSelf hil)
        have hq := h.lag i hid hiL
        obtain ⟨v, hv, hvd⟩ : ∃ v, QY P (insAt l i) x.s x.σ v ∧ ∀ d, (insAt l i).dst = some d → x.s d = v := by
          unfold QYd at hq
          cases hd : (insAt l i).dst with
          | none => rw [hd] at hq; obtain ⟨v, hq⟩ := hq; exact ⟨v, hq, by simp⟩
          | some d => rw [hd] at hq; exact ⟨_, hq, fun d' e => by cases e; rfl⟩
        refine .inl ((T_quiet (by simp [quietI, hk])).2 ⟨v, ?_, ?_⟩)
        · rw [h.store]; exact QY_congr huses hv
        · refine ih (i :: L) _ done rest x (by simp only [List.length_cons]; omega) ⟨h.split, fun j hj => ?_, List.nodup_cons.2 ⟨hiL, h.nodup⟩, fun m hm d hd => ?_, fun j hj hje => by simp [h.effs j hj hje], h.store, fun d hd => ?_, fun j hj hjL => h.lag j hj (fun hm => hjL (by simp [hm])), h.go⟩
          · rcases List.mem_cons.1 hj with rfl | hj
            · exact hid
            · exact h.sub j hj
          · rcases List.mem_cons.1 hm with rfl | hm
            · simp [hdep d hd]
            · simp [h.closed m hm d hd]
          · simp only
            by_cases hdi : (insAt l i).dst = some d
            · rw [hdi]
              simp only [putO]
              rw [if_pos trivial]
              exact (hvd d hdi).symm
            · have h1 := h.slot d fun j hj hjL => by
                by_cases hji : j = i
                · rw [hji]; exact hdi
                · exact hd j hj (by simp [hji, hjL])
              rw [← h1]
              cases hde : (insAt l i).dst with
              | none => rfl
              | some d' =>
                rw [hde] at hdi
                simp only [putO]
                rw [if_neg (fun e' => hdi (by rw [e']))]
      · have hir : i ∈ rest := by
          have := hE.mem i hil
          rw [h.split] at this
          exact (List.mem_append.1 this).resolve_left hid
        obtain ⟨hd0, rr, rfl⟩ : ∃ a r, rest = a :: r := by
          cases rest with
          | nil => cases hir
          | cons a r => exact ⟨a, r, rfl⟩
        have heff := hhead hd0 rr rfl
        have hh0 : hd0 ∉ done := fun hm => (List.nodup_append.1 hnd).2.2 hd0 hm hd0 (by simp) rfl
        have hih : i = hd0 := by
          rcases List.mem_cons.1 hir with e | hir
          · exact e
          · exfalso
            have := hE.effs (done ++ [hd0]) rr hd0 i (by rw [h.split]; simp) (by simp) hir heff
            exact hh0 (h.sub _ (hbefL _ this))
        subst hih
        have hgo := h.go
        rw [itemsF, RE_op hil] at hgo
        refine TC_congr huses h.store.symm (fun r σ' hK => ?_) hgo
        rw [chks, if_pos heff] at hK
        obtain ⟨hck, hgo'⟩ := RE_chks (fun k => !(isEff l bef k) && (!(sfree (insAt l k).op) && !((befAt bef i).contains k))) (fun j hj => hE.lt j (by rw [h.split]; simp [hj])) hK
        refine ih (i :: L) _ (done ++ [i]) rr ⟨putO x.s (insAt l i).dst r, σ'⟩ (by simp only [List.length_cons]; omega) ⟨by rw [h.split]; simp, fun j hj => ?_, List.nodup_cons.2 ⟨hiL, h.nodup⟩, fun m hm d hd => ?_, fun j hj hje => ?_, rfl, fun d hd => ?_, fun j hj hjL => ?_, hgo'⟩
        · rcases List.mem_cons.1 hj with rfl | hj
          · simp
          · simp [h.sub j hj]
        · rcases List.mem_cons.1 hm with rfl | hm
          · simp [hdep d hd]
          · simp [h.closed m hm d hd]
        · rcases List.mem_append.1 hj with hj | hj
          · simp [h.effs j hj hje]
          · simp only [List.mem_singleton] at hj; simp [hj]
        · have h1 : (insAt l i).dst = some d ∨ y.s d = x.s d := by
            by_cases hdi : (insAt l i).dst = some d
            · exact .inl hdi
            · exact .inr (h.slot d fun j hj hjL => hd j (by simp [hj]) (by
                simp only [List.mem_cons, not_or]
                exact ⟨fun e => hid (e ▸ hj), hjL⟩))
          simp only
          cases hde : (insAt l i).dst with
          | none => rw [hde] at h1; exact h1.resolve_left (by simp)
          | some d' =>
            simp only [putO]
            split
            · rfl
            · rename_i hne
              rw [hde] at h1
              exact h1.resolve_left (fun e => hne (by cases e; rfl))
        · have hjd : j ∈ done := by
            rcases List.mem_append.1 hj with hj | hj
            · exact hj
            · simp only [List.mem_singleton] at hj; exact absurd (by simp [hj]) hjL
          have hjL' : j ∉ L := fun hm => hjL (by simp [hm])
          have hjl : j < l.length := hE.lt j (by rw [h.split]; simp [hjd])
          have hji : j ≠ i := fun e => hid (e ▸ hjd)
          have hje : isEff l bef j = false := by
            cases hje : isEff l bef j with
            | false => rfl
            | true => exact absurd (h.effs j hjd hje) hjL'
          cases hsf : sfree (insAt l j).op with
          | true =>
            refine QYd_put hE hjl hil hji (fun d hd hu => ?_) (fun v hv => QY_sfree hsf hv) (h.lag j hjd hjL')
            rcases hE.anti j i hjl hil hji d hd hu with h1 | ⟨_, h1⟩
            · obtain ⟨a, b, hab⟩ := List.append_of_mem hjd
              have h2 := hE.befAhead (a := a) (j := j) (b := b ++ i :: rr) (by rw [h.split, hab]; simp) i h1
              exact hid (by rw [hab]; simp [h2])
            · exact hjL' (hbefL j h1)
          | false =>
            refine hck j hjd ?_
            simp only [hje, hsf, Bool.not_false, Bool.true_and, Bool.not_eq_true']
            cases hc : (befAt bef i).contains j with
            | false => rfl
            | true => exact absurd (hbefL j (List.contains_iff_mem.1 hc)) hjL'
    cases hr : readyV deps L with
    | cons a r => unfold anyVC; rw [hr] at key ⊢; exact key
    | nil =>
      exfalso
      -- the first one that is not done could be done
      have : ∃ i, i ∈ ord ∧ i ∉ L := by
        by_cases hx : ∃ i, i ∈ ord ∧ i ∉ L
        · exact hx
        · exfalso
          have hsub : ∀ i ∈ ord, i ∈ L := fun i hi => Classical.byContradiction fun hn => hx ⟨i, hi, hn⟩
          have h1 := hE.nodup.length_le_of_subset hsub
          have := hE.len
          omega
      obtain ⟨i, hi, hiL⟩ := this
      have first : ∀ (a b : List Nat), ord = a ++ b → (∀ j ∈ a, j ∈ L) → (∃ i ∈ b, i ∉ L) → ∃ a' e b', ord = a' ++ e :: b' ∧ (∀ j ∈ a', j ∈ L) ∧ e ∉ L := by
        intro a b
        induction b generalizing a with
        | nil => rintro _ _ ⟨i, h, _⟩; cases h
        | cons e b ihb =>
          intro he ha hx
          by_cases heL : e ∈ L
          · refine ihb (a ++ [e]) (by rw [he]; simp) (fun j hj => ?_) ?_
            · rcases List.mem_append.1 hj with hj | hj
              · exact ha j hj
              · simp only [List.mem_singleton] at hj; rw [hj]; exact heL
            · obtain ⟨i, hi, hiL⟩ := hx
              rcases List.mem_cons.1 hi with rfl | hi
              · exact absurd heL hiL
              · exact ⟨i, hi, hiL⟩
          · exact ⟨a, e, b, he, ha, heL⟩
      obtain ⟨a, e, b, he, ha, heL⟩ := first [] ord rfl (by simp) ⟨i, hi, hiL⟩
      have hel : e < l.length := hE.lt e (by rw [he]; simp)
      have : e ∈ readyV deps L := by
        unfold readyV
        refine List.mem_filter.2 ⟨by simp [hE.dlen, hel], ?_⟩
        simp only [Bool.and_eq_true, Bool.not_eq_true', List.all_eq_true]
        refine ⟨by simpa using heL, fun d hd => ?_⟩
        simpa using ha d (hE.ahead a e b he d hd)
      rw [hr] at this
      cases this
end
theorem Runs.regE (hm : P.follows .mixedOrders = true) {l : List VIns} {deps : List (List Nat)} (ord : List Nat) (bef : List (List Nat)) (its : List Nat) (hB : eOk l deps bef ord = true) (hi : itemsF l bef [] ord = its)
    (h : RE P l (fun x => Runs P n k x Q) its st) : Runs P n (.code (.regA l deps) :: k) st Q := by
  have hE := eOk_spec hB
  refine Runs.regAC hm (anyVC_of_lag hE l.length [] st [] ord st (by simp) ⟨rfl, by simp, List.nodup_nil, by simp, by simp, rfl, fun _ _ => rfl, by simp, by rw [hi]; exact h⟩)
theorem RE.seg {l : List VIns} {K : St → Prop} (rest : List Nat) : ∀ (idx : List Nat) (sg : List VIns) {x : St}, (idx.map fun m => l[m / 2]?) = sg.map some → (idx.all fun m => m % 2 == 0) = true →
    Go P n (.d sg [.stop (RE P l K rest)]) x (fun _ => False) → RE P l K (idx ++ rest) x
  | [], [], _, _, _, h => h
  | [], _ :: _, _, h, _, _ => by simp at h
  | _ :: _, [], _, h, _, _ => by simp at h
  | m :: idx, i :: sg, x, h, hev, hg => by
    simp only [List.map_cons, List.cons.injEq] at h
    simp only [List.all_cons, Bool.and_eq_true, beq_iff_eq] at hev
    show RE P l K (m :: (idx ++ rest)) x
    rw [RE, h.1]
    simp only [if_pos hev.1]
    exact .inl (T.mono (fun x' hx' => RE.seg rest idx sg h.2 (by simpa using hev.2) hx') hg)
theorem RE.call {l : List VIns} {K : St → Prop} {m : Nat} {rest : List Nat} {x : St} {i : VIns} (hi : l[m / 2]? = some i) (hm : m % 2 = 0) {fx : VX} {xs : List VX} (hw : wantV x.s i.g = some true) (ho : i.op = .call fx xs) {f : FuncId} {caps : List V} (hf : fx.ev x.s = .fn f caps)
    {Post : V → Store → Prop} (hc : Contract P f (xs.map (·.ev x.s) ++ caps) x.σ Post) (h : ∀ r σ', Post r σ' → RE P l K rest ⟨putO x.s i.dst r, σ'⟩) : RE P l K (m :: rest) x := by
  rw [RE, hi]
  simp only [if_pos hm]
  exact .inr ⟨hw, by rw [ho]; exact ⟨f, caps, Post, hf, hc, h⟩⟩
theorem RE.pcall {l : List VIns} {K : St → Prop} {m : Nat} {rest : List Nat} {x : St} {i : VIns} (hi : l[m / 2]? = some i) (hm : m % 2 = 0) {fx : VX} {xs : List VX} (hw : wantV x.s i.g = some true) (ho : i.op = .call fx xs) {f : FuncId} {caps : List V} (hf : fx.ev x.s = .fn f caps)
    {v : V} (hc : Contract P f (xs.map (·.ev x.s) ++ caps) x.σ fun r σ' => r = v ∧ σ' = x.σ) (h : RE P l K rest ⟨putO x.s i.dst v, x.σ⟩) : RE P l K (m :: rest) x :=
  RE.call hi hm hw ho hf hc fun r σ' ⟨h1, h2⟩ => by subst h1; subst h2; exact h
theorem RE.chk {l : List VIns} {K : St → Prop} {m : Nat} {rest : List Nat} {x : St} {i : VIns} (hi : l[m / 2]? = some i) (hm : m % 2 = 1) {d : Nat} (hd : i.dst = some d) (hw : wantV x.s i.g = some true) (hk : okind i.op = 0) (hp : vpre x.s i.op)
    (hv : vpure x.σ x.s i.op = some (x.s d)) (h : RE P l K rest x) : RE P l K (m :: rest) x := by
  rw [RE, hi]
  simp only [hm, Nat.one_ne_zero, if_false]
  refine ⟨?_, h⟩
  unfold QYd
  rw [hd]
  refine .inl ⟨hw, ?_⟩
  unfold QO
  simp only [hk]
  exact ⟨hp, hv⟩
end Go.Vc
namespace Go.Vc
open Go.Proofs
section
variable {P : Program} {n : Nat} {Q : St → Prop} {k : List It}
theorem Go.pcall {d : Option Nat} {fx : VX} {xs : List VX} {l : List VIns} {s : Nat → V} {σ : Store} {f : FuncId} {caps : List V} {v : V}
    (hf : fx.ev s = .fn f caps) (hc : PFun P f (xs.map (·.ev s) ++ caps) v) (h : Go P n (.d l k) ⟨putO s d v, σ⟩ Q) :
    Go P n (.d (⟨d, .call fx xs, none⟩ :: l) k) ⟨s, σ⟩ Q := by
  refine T_true (st := ⟨s, σ⟩) (i := ⟨d, .call fx xs, none⟩) rfl ?_
  exact ⟨f, caps, v, hf, fun σ1 _ => hc σ1, h⟩
end
theorem sliceV_from {σ : Store} {l : List Nd} {s : Int} (h1 : 0 ≤ s) (h2 : s ≤ l.length) :
    sliceV σ 20 (encNs l) (some (.int .i64 s)) none none = some (encNs (l.drop s.toNat)) := by
  simp only [encNs,sliceV,boundV,List.length_map]
  rw [if_pos ⟨h1, h2, Int.le_refl _, Int.le_refl _, trivial⟩]
  simp only [V.sl.injEq,Option.some.injEq,true_and]
  rw [List.map_drop, List.take_of_length_le]
  simp
def bump (m : Int) (p : Nat) (out : List Nd) : List Nd := match out[p]? with
  | some x => out.set p { x with size := x.size + m }
  | none => out
theorem bump_length (m : Int) (p : Nat) (out : List Nd) : (bump m p out).length = out.length := by
  unfold bump; split <;> simp
theorem bump_get {m : Int} {p i : Nat} {out : List Nd} (h : i ≠ p) : (bump m p out)[i]? = out[i]? := by
  unfold bump; split
  · rw [List.getElem?_set_ne (by omega)]
  · rfl
def bumps (m : Int) : List Int → List Nd → List Nd
  | [], out => out
  | p :: ps, out => bumps m ps (bump m p.toNat out)
theorem bumps_length (m : Int) : ∀ (ps : List Int) (out : List Nd), (bumps m ps out).length = out.length
  | [], _ => rfl
  | p :: ps, out => by rw [bumps, bumps_length m ps, bump_length]
def swapL (l : List Nd) (x : Ed) (to : Int) : List Nd :=
  bumps ((x.sub.length : Int) - (to - x.pos)) (ups l (l.length + 1) x.into) (l.take x.pos.toNat ++ x.sub ++ l.drop to.toNat)
def swapR (l : List Nd) (x : Ed) : Option (List Nd) :=
  if (goesR l x.into x.pos x.many).2.2 = false ∨ isB x.sub = false ∨ x.st ≠ Sty.zero then none else some (swapL l x (goesR l x.into x.pos x.many).2.1)
set_option maxRecDepth 100000 in
theorem swap_w (x : Ed) (l : List Nd) (hl : Sml l) (hb : isB l = true) (hx : Sml x.sub) (σ : Store) : Contract Try.prog 40 [encH x l] σ fun r σ' => SubStore σ σ' ∧ OptW σ σ' r (swapR l x) := by
  have hl1 := hl.1
  have hx1 := hx.1
  refine Contract.of_runs Try.func40 e40 k40 (by simp [c40]) ?_
  refine Runs.mix 12 ?_
  (refine Runs.of_step Orc.nothing 300 ?_; simp -implicitDefEqProofs only [BB,seval,← decide_not,okind,vpre,vpure,intBin,intPre,strBin,strPre,popTo,argSlots,fldV,fldAV,subCells,idxVV,idxAAV,idxSV,sliceV,sliceSV,boundV,szIs,storeOp,storeS,setRowV,eff,extV,buildV,splice,eqSV,fitsL,eqCells,eqCell,minmaxV,capV,binBV,nilCheckV,bytesV,V.cells,V.stays,Orc.nothing,c40,encH,encNs_cells,encNs_stays])
  refine effR_new fun id1 σ1 s1 a1 f1 => ?_
  simp -implicitDefEqProofs only [BB,seval,← decide_not,okind,vpre,vpure,intBin,intPre,strBin,strPre,popTo,argSlots,fldV,fldAV,subCells,idxVV,idxAAV,idxSV,sliceV,sliceSV,boundV,szIs,storeOp,storeS,setRowV,eff,extV,buildV,splice,eqSV,fitsL,eqCells,eqCell,minmaxV,capV,binBV,nilCheckV,bytesV,V.cells,V.stays,a1,encNs_cells,encNs_stays]
  have hnone : swapR l x = none → RetV (.tup [.nils, .bool false]) σ1 fun r σ' => SubStore σ σ' ∧ OptW σ σ' r (swapR l x) := fun h => by
    rw [h]
    exact ⟨_, _, SubStore.refl _, Wk.refl (SubStore.refl _) _, s1, OptW.none⟩
  have hgc := goes_c x l hl.fine hb
  rcases hg : goesR l x.into x.pos x.many with ⟨fr, to, ok⟩
  rw [hg] at hgc
  refine Runs.pcall rfl rfl rfl (hgc _) ?_
  cases ok
  · (refine Runs.of_step Orc.nothing 300 ?_; simp -implicitDefEqProofs only [BB,seval,← decide_not,okind,vpre,vpure,intBin,intPre,strBin,strPre,popTo,argSlots,fldV,fldAV,subCells,idxVV,idxAAV,idxSV,sliceV,sliceSV,boundV,szIs,storeOp,storeS,setRowV,eff,extV,buildV,splice,eqSV,fitsL,eqCells,eqCell,minmaxV,capV,binBV,nilCheckV,bytesV,V.cells,V.stays,Orc.nothing,a1,encNs_cells,encNs_stays])
    exact hnone (by rw [swapR, if_pos (.inl (by rw [hg]))])
  · (refine Runs.of_step Orc.nothing 300 ?_; simp -implicitDefEqProofs only [BB,seval,← decide_not,okind,vpre,vpure,intBin,intPre,strBin,strPre,popTo,argSlots,fldV,fldAV,subCells,idxVV,idxAAV,idxSV,sliceV,sliceSV,boundV,szIs,storeOp,storeS,setRowV,eff,extV,buildV,splice,eqSV,fitsL,eqCells,eqCell,minmaxV,capV,binBV,nilCheckV,bytesV,V.cells,V.stays,Orc.nothing,a1,encNs_cells,encNs_stays])
    refine Runs.pcall rfl rfl rfl (isv_c x.sub hx.fine _) ?_
    cases hbs : isB x.sub
    · (refine Runs.of_step Orc.nothing 300 ?_; simp -implicitDefEqProofs only [BB,seval,← decide_not,okind,vpre,vpure,intBin,intPre,strBin,strPre,popTo,argSlots,fldV,fldAV,subCells,idxVV,idxAAV,idxSV,sliceV,sliceSV,boundV,szIs,storeOp,storeS,setRowV,eff,extV,buildV,splice,eqSV,fitsL,eqCells,eqCell,minmaxV,capV,binBV,nilCheckV,bytesV,V.cells,V.stays,Orc.nothing,a1,encNs_cells,encNs_stays])
      exact hnone (by rw [swapR, if_pos (.inr (.inl hbs))])
    · (refine Runs.of_step Orc.nothing 300 ?_; simp -implicitDefEqProofs only [BB,seval,← decide_not,okind,vpre,vpure,intBin,intPre,strBin,strPre,popTo,argSlots,fldV,fldAV,subCells,idxVV,idxAAV,idxSV,sliceV,sliceSV,boundV,szIs,storeOp,storeS,setRowV,eff,extV,buildV,splice,eqSV,fitsL,eqCells,eqCell,minmaxV,capV,binBV,nilCheckV,bytesV,V.cells,V.stays,Orc.nothing,a1,encNs_cells,encNs_stays,isZero_eq])
      refine And.intro (fun hz => ?_) (fun hz => ?_)
      · exact hnone (by rw [swapR, if_pos (.inr (.inr hz))])
      · have hz' : x.st = Sty.zero := Classical.not_not.1 hz
        have hsome : swapR l x = some (swapL l x to) := by
          rw [swapR, if_neg]
          · rw [hg]
          · rintro (h | h | h)
            · rw [hg] at h; cases h
            · rw [hbs] at h; cases h
            · exact h hz'
        rw [hsome]
        obtain ⟨rfl, g1, g2, g3, g4, g5, g6, _⟩ := goneR_facts hb hg
        refine Runs.call rfl rfl rfl (own9_w l hl _) ?_
        rintro r σ2 ⟨hsub2, rows, hout, hrw⟩
        simp only at hsub2 hout hrw
        have a10 := a1
        have a1 := hsub2 _ _ a1
        have hn := hrw.len
        have hnat : ((x.pos.toNat : Nat) : Int) = x.pos := by omega
        have hpl : x.pos.toNat ≤ l.length := by omega
        have hpre : ∃ v idA, sliceV σ2 20 r none (some (vI x.pos)) (some (vI x.pos)) = some v ∧ v.cells = [v] ∧ (∀ τ, SubStore σ2 τ → dstRows τ 42 20 v = some (rows.take x.pos.toNat, idA)) ∧ (∀ i, idA = some i → σ1 i = none ∧ ∃ e rows0, σ2 i = some ⟨e, 20, rows0⟩) := by
          rcases hout with ⟨rfl, rfl⟩ | ⟨id, rfl, ho, hk⟩
          · have hl0 : l = [] := by cases l with | nil => rfl | cons a b => simp at hn
            subst hl0
            have hp0 : x.pos = 0 := by simp at g3; omega
            rw [hp0]
            exact ⟨.nils, none, rfl, rfl, fun _ _ => rfl, fun _ h => by cases h⟩
          · refine ⟨.own id 0 x.pos.toNat, some id, ?_, rfl, fun τ hτ => ?_, fun i hi => by cases hi; exact ⟨hk, _, _, ho⟩⟩
            · simp only [sliceV,boundV,szIs,ho,hn]
              rw [if_pos ⟨by omega, by omega, by omega, by omega, by simp⟩]
              simp
            · simp only [dstRows,hτ _ _ ho,hn]
              rw [if_pos ⟨trivial, trivial, trivial, hpl⟩]
        obtain ⟨v, idA, hv, hvc, hd, hA⟩ := hpre
        have hto : to.toNat ≤ l.length := by omega
        have hsl := fun σ => sliceV_from (σ := σ) (l := l) (s := to) (by omega) g3
        have hlx : Sml (l.drop to.toNat) := ⟨by simp; omega, fun y hy => hl.2 y (List.mem_of_mem_drop hy)⟩
        (refine Runs.of_step Orc.nothing 300 ?_; simp -implicitDefEqProofs only [BB,seval,← decide_not,okind,vpre,vpure,intBin,intPre,strBin,strPre,popTo,argSlots,fldV,fldAV,subCells,idxVV,idxAAV,idxSV,sliceSV,boundV,szIs,storeOp,storeS,setRowV,eff,extV,buildV,splice,eqSV,fitsL,eqCells,eqCell,minmaxV,capV,binBV,nilCheckV,bytesV,V.cells,V.stays,Orc.nothing,a1,encNs_cells,encNs_stays,hv])
        refine Runs.regE (by kernel_rfl) [0, 1, 2, 3, 6, 7, 8, 9, 4, 5, 10, 11, 12] [[], [], [1], [1, 2], [1, 2, 3], [0, 1, 2, 3, 4], [], [6], [], [6, 7, 8], [0, 1, 2, 3, 4, 5, 6, 7, 8, 9], [0, 1, 2, 3, 4, 5, 6, 7, 8, 9, 10], [0, 1, 2, 3, 4, 5, 6, 7, 8, 9, 10, 11]] [0, 2, 4, 6, 12, 14, 16, 18, 8, 15, 19, 10, 15, 19, 20, 22, 24] (by kernel_rfl) (by kernel_rfl) ?_
        refine RE.seg (n := 0) [8, 15, 19, 10, 15, 19, 20, 22, 24] [0, 2, 4, 6, 12, 14, 16, 18] [⟨(.some 39),(.mov (.t 7)),.none⟩,⟨(.some 40),(.fldA .true 0 17 (.t 1)),.none⟩,⟨(.some 41),(.fldA .false 4 1 (.t 40)),.none⟩,⟨(.some 42),(.load .false 1 (.t 41)),.none⟩,⟨(.some 45),(.fldA .false 17 1 (.t 1)),.none⟩,⟨(.some 46),(.load .false 1 (.t 45)),.none⟩,⟨(.some 47),(.mov (.t 5)),.none⟩,⟨(.some 48),(.slice 20 (.t 46) (.some (.t 47)) .none .none),.none⟩] rfl rfl ?_
        (refine Go.of_step Orc.nothing 300 _ _ ?_; simp -implicitDefEqProofs only [BB,seval,← decide_not,okind,vpre,vpure,intBin,intPre,strBin,strPre,popTo,argSlots,fldV,fldAV,subCells,idxVV,idxAAV,idxSV,sliceSV,boundV,szIs,storeOp,storeS,setRowV,eff,extV,buildV,splice,eqSV,fitsL,eqCells,eqCell,minmaxV,capV,binBV,nilCheckV,bytesV,V.cells,V.stays,Orc.nothing,a1,encNs_cells,encNs_stays,hsl,hvc])
        refine RE.call rfl rfl rfl rfl rfl (own9_w x.sub hx _) ?_
        rintro r3 σ3 ⟨hs3, rows3, hout3, hrw3⟩
        simp only at hs3 hout3 hrw3
        have a1 := hs3 _ _ a1
        have hn3 := hrw3.len
        refine RE.chk rfl rfl rfl rfl rfl trivial (by simp -implicitDefEqProofs only [BB,seval,← decide_not,okind,vpre,vpure,intBin,intPre,strBin,strPre,popTo,argSlots,fldV,fldAV,subCells,idxVV,idxAAV,idxSV,sliceV,sliceSV,boundV,szIs,storeOp,storeS,setRowV,eff,extV,buildV,splice,eqSV,fitsL,eqCells,eqCell,minmaxV,capV,binBV,nilCheckV,bytesV,V.cells,V.stays,a1,encNs_cells,encNs_stays]) ?_
        refine RE.chk rfl rfl rfl rfl rfl trivial (by simp -implicitDefEqProofs only [BB,seval,← decide_not,okind,vpre,vpure,intBin,intPre,strBin,strPre,popTo,argSlots,fldV,fldAV,subCells,idxVV,idxAAV,idxSV,sliceSV,boundV,szIs,storeOp,storeS,setRowV,eff,extV,buildV,splice,eqSV,fitsL,eqCells,eqCell,minmaxV,capV,binBV,nilCheckV,bytesV,V.cells,V.stays,a1,encNs_cells,encNs_stays,hsl]) ?_
        have hd3 := hd σ3 hs3
        have hsr3 := hout3.src (SubStore.refl _)
        have hb1 : ((rows.take x.pos.toNat).length + rows3.length) * 177 ≤ 140737488355328 := by simp; omega
        refine RE.seg (n := 0) [15, 19, 20, 22, 24] [10] [⟨(.some 44),(.append 42 20 176 (.t 39) (.t 43)),.none⟩] rfl rfl ?_
        (refine Go.of_step Orc.nothing 300 _ _ ?_; simp -implicitDefEqProofs only [BB,seval,← decide_not,okind,vpre,vpure,intBin,intPre,strBin,strPre,popTo,argSlots,fldV,fldAV,subCells,idxVV,idxAAV,idxSV,sliceV,sliceSV,boundV,szIs,storeOp,storeS,setRowV,eff,extV,buildV,splice,eqSV,fitsL,eqCells,eqCell,minmaxV,capV,binBV,nilCheckV,bytesV,V.cells,V.stays,Orc.nothing,hd3,hsr3,hb1])
        refine effD_put fun id2 σ4 s4 a2 f2 => ?_
        have hs4 : SubStore σ1 σ4 := ((hsub2.trans hs3).delOK fun i hi => (hA i hi).1).trans s4
        have a1 := hs4 _ _ a10
        simp -implicitDefEqProofs only [BB,seval,← decide_not,okind,vpre,vpure,intBin,intPre,strBin,strPre,popTo,argSlots,fldV,fldAV,subCells,idxVV,idxAAV,idxSV,sliceV,sliceSV,boundV,szIs,storeOp,storeS,setRowV,eff,extV,buildV,splice,eqSV,fitsL,eqCells,eqCell,minmaxV,capV,binBV,nilCheckV,bytesV,V.cells,V.stays]
        refine RE.chk rfl rfl rfl rfl rfl trivial (by simp -implicitDefEqProofs only [BB,seval,← decide_not,okind,vpre,vpure,intBin,intPre,strBin,strPre,popTo,argSlots,fldV,fldAV,subCells,idxVV,idxAAV,idxSV,sliceV,sliceSV,boundV,szIs,storeOp,storeS,setRowV,eff,extV,buildV,splice,eqSV,fitsL,eqCells,eqCell,minmaxV,capV,binBV,nilCheckV,bytesV,V.cells,V.stays,a1,encNs_cells,encNs_stays]) ?_
        refine RE.chk rfl rfl rfl rfl rfl trivial (by simp -implicitDefEqProofs only [BB,seval,← decide_not,okind,vpre,vpure,intBin,intPre,strBin,strPre,popTo,argSlots,fldV,fldAV,subCells,idxVV,idxAAV,idxSV,sliceSV,boundV,szIs,storeOp,storeS,setRowV,eff,extV,buildV,splice,eqSV,fitsL,eqCells,eqCell,minmaxV,capV,binBV,nilCheckV,bytesV,V.cells,V.stays,a1,encNs_cells,encNs_stays,hsl]) ?_
        refine RE.call rfl rfl rfl rfl rfl (own9_w (l.drop to.toNat) hlx _) ?_
        rintro r5 σ5 ⟨hs5, rows5, hout5, hrw5⟩
        simp only at hs5 hout5 hrw5
        have a1 := hs5 _ _ a1
        have hn5 := hrw5.len
        have hn5' : rows5.length ≤ l.length := by rw [hn5]; simp
        have a2 := hs5 _ _ a2
        have hn2 : (rows.take x.pos.toNat).length + rows3.length = (rows.take x.pos.toNat ++ rows3).length := by simp
        have hd5 : dstRows σ5 42 20 (.own id2 0 ((rows.take x.pos.toNat).length + rows3.length)) = some (rows.take x.pos.toNat ++ rows3, some id2) := by
          simp only [dstRows,a2,hn2]
          rw [if_pos ⟨trivial, trivial, trivial, Nat.le_refl _⟩, List.take_length]
        have hsr5 := hout5.src (SubStore.refl _)
        have hb2 : (((rows.take x.pos.toNat).length + rows3.length) + rows5.length) * 177 ≤ 140737488355328 := by simp; omega
        refine RE.seg (n := 0) [] [22, 24] [⟨(.some 50),(.append 42 20 176 (.t 44) (.t 49)),.none⟩,⟨(.some 8),(.mov (.t 50)),.none⟩] rfl rfl ?_
        (refine Go.of_step Orc.nothing 300 _ _ ?_; simp -implicitDefEqProofs only [BB,seval,← decide_not,okind,vpre,vpure,intBin,intPre,strBin,strPre,popTo,argSlots,fldV,fldAV,subCells,idxVV,idxAAV,idxSV,sliceV,sliceSV,boundV,szIs,storeOp,storeS,setRowV,eff,extV,buildV,splice,eqSV,fitsL,eqCells,eqCell,minmaxV,capV,binBV,nilCheckV,bytesV,V.cells,V.stays,Orc.nothing,hd5,hsr5,List.length_append,hb2])
        refine effD_put fun id3 σ6 s6 a3 f3 => ?_
        have hk2 : σ1 id2 = none := (hsub2.trans hs3).none f2
        have hs6 : SubStore σ1 σ6 := ((hs4.trans hs5).delOK fun i hi => by cases hi; exact hk2).trans s6
        have a1 := hs6 _ _ a10
        have hf3 : σ1 id3 = none := (hs4.trans hs5).none f3
        simp -implicitDefEqProofs only [BB,seval,← decide_not,okind,vpre,vpure,intBin,intPre,strBin,strPre,popTo,argSlots,fldV,fldAV,subCells,idxVV,idxAAV,idxSV,sliceV,sliceSV,boundV,szIs,storeOp,storeS,setRowV,eff,extV,buildV,splice,eqSV,fitsL,eqCells,eqCell,minmaxV,capV,binBV,nilCheckV,bytesV,V.cells,V.stays]
        (refine Runs.of_step Orc.nothing 300 ?_; simp -implicitDefEqProofs only [BB,seval,← decide_not,okind,vpre,vpure,intBin,intPre,strBin,strPre,popTo,argSlots,fldV,fldAV,subCells,idxVV,idxAAV,idxSV,sliceV,sliceSV,boundV,szIs,storeOp,storeS,setRowV,eff,extV,buildV,splice,eqSV,fitsL,eqCells,eqCell,minmaxV,capV,binBV,nilCheckV,bytesV,V.cells,V.stays,Orc.nothing,a1,encNs_cells,encNs_stays,lenV_encNs])
        refine ⟨inR_i64 (by omega) (by omega), inR_i64 (by omega) (by omega), ?_⟩
        generalize hm : (x.sub.length : Int) - (to - x.pos) = more at *
        generalize ho0 : l.take x.pos.toNat ++ x.sub ++ l.drop to.toNat = out0 at *
        have hsw : swapL l x to = bumps more (ups l (l.length + 1) x.into) out0 := by rw [swapL, hm, ho0]
        have hrows : RowsW σ1 σ6 out0 (rows.take x.pos.toNat ++ rows3 ++ rows5) := by
          have w1 := ((hrw.mono hs3).take x.pos.toNat).delO (fun i hi => by
            obtain ⟨e, rows0, h⟩ := (hA i hi).2
            exact ⟨e, rows0, hs3 _ _ h⟩) s4
          have w3 := (hrw3.lessK hsub2).delO (fun i hi => by
            obtain ⟨e, rows0, h⟩ := (hA i hi).2
            exact ⟨e, rows0, hs3 _ _ h⟩) s4
          have w5 := hrw5.lessK hs4
          rw [← ho0]
          exact (((w1.mono hs5).app (w3.mono hs5)).app w5).delO (idA := some id2) (fun i hi => by cases hi; exact ⟨_, _, a2⟩) s6
        have hlen0 : out0.length = (l.take x.pos.toNat).length + x.sub.length + (l.drop to.toNat).length := by rw [← ho0]; simp only [List.length_append]
        have hlen1 : (x.pos : Int) ≤ out0.length := by rw [hlen0]; simp; omega
        have hget0 : ∀ i : Nat, (i : Int) < x.pos → out0[i]? = l[i]? := fun i hi => by
          rw [← ho0, List.append_assoc, List.getElem?_append_left (by simp; omega), List.getElem?_take, if_pos (by omega)]
        rw [hsw]
        refine Runs.loop (fun m st => ∃ (q : Int) (f : Nat) (out : List Nd), m = (q + 1).toNat ∧ -1 ≤ q ∧ q < x.pos ∧ q < f ∧ out.length = out0.length ∧ bumps more (ups l (l.length + 1) x.into) out0 = bumps more (ups l f q) out ∧
          (∀ i : Nat, (i : Int) ≤ q → out[i]? = l[i]?) ∧ SubStore σ1 st.σ ∧ OutW σ1 st.σ (st.s 8) out ∧ st.s 1 = .ptr id1 0 0 ∧ st.s 9 = vI more ∧ st.s 10 = vI q) (x.into + 1).toNat ?_ ?_
        · refine ⟨x.into, l.length + 1, out0, rfl, g4, by omega, by omega, rfl, rfl, fun i hi => hget0 i (by omega), hs6, ?_, rfl, rfl, rfl⟩
          exact ⟨_, OutV.new (by simp only [List.length_append]) a3 hf3, hrows⟩
        · rintro m ⟨s, σ'⟩ ⟨q, f, out, rfl, q1, q2, qf, hol, heq, hget, hsub, houtw, h1, h9, h10⟩
          simp only at hsub houtw h1 h9 h10
          have a1 := hsub _ _ a10
          refine Runs.mix 12 ?_
          (refine Runs.of_step Orc.nothing 300 ?_; simp -implicitDefEqProofs only [BB,seval,← decide_not,okind,vpre,vpure,intBin,intPre,strBin,strPre,popTo,argSlots,fldV,fldAV,subCells,idxVV,idxAAV,idxSV,sliceV,sliceSV,boundV,szIs,storeOp,storeS,setRowV,eff,extV,buildV,splice,eqSV,fitsL,eqCells,eqCell,minmaxV,capV,binBV,nilCheckV,bytesV,V.cells,V.stays,Orc.nothing,h1,h9,h10])
          refine And.intro (fun hq => ?_) (fun hq => ?_)
          · obtain ⟨g, rfl, hu⟩ := ups_pos (l := l) (f := f) (by omega : (0:Int) ≤ q) (by omega)
            rw [hu, bumps] at heq
            have hqn : q.toNat < l.length := by omega
            have hqo : q.toNat < out.length := by omega
            have hge := hget q.toNat (by omega)
            rw [List.getElem?_eq_getElem hqn, List.getElem?_eq_getElem hqo] at hge
            have hge : out[q.toNat] = l[q.toNat] := by simpa using hge
            have hsz := szI_bound hb hqn
            have hse := szI_eq hqn
            obtain ⟨rowsq, hout, hrwq⟩ := houtw
            have hnq := hrwq.len
            rcases hout with ⟨hv8, rfl⟩ | ⟨id, hv8, ho, hk⟩
            · simp at hnq; omega
            · obtain ⟨w, hrow, hw⟩ := hrwq.get _ (List.getElem?_eq_getElem hqo)
              have hbu : bump more q.toNat out = out.set q.toNat { out[q.toNat] with size := out[q.toNat].size + more } := by
                rw [bump, List.getElem?_eq_getElem hqo]
              have hc : 0 ≤ q ∧ q < (out.length : Int) := by omega
              have hszo : out[q.toNat].size = szI l q.toNat := by rw [hge, hse]
              rw [hnq] at hv8
              have hne : id1 ≠ id := by
                rintro rfl
                rw [a10] at hk; cases hk
              generalize out[q.toNat] = y at *
              have hset : RowsW σ1 (upd σ' id ⟨42, 20, rowsq.set q.toNat (ndW { y with size := y.size + more } w)⟩) (bump more q.toNat out) (rowsq.set q.toNat (ndW { y with size := y.size + more } w)) := by
                rw [hbu]
                exact (hrwq.set (x := { y with size := y.size + more }) hw q.toNat).kept ho fun j hj o hjo => by rw [upd_ne hj]; exact hjo
              have hpq := parR_range l q.toNat
              have hpc := parent91_c l hl.fine hb q.toNat hqn
              rw [show ((q.toNat : Nat) : Int) = q by omega] at hpc
              have fin : OutW σ1 (upd σ' id ⟨42, 20, rowsq.set q.toNat (ndW { y with size := y.size + more } w)⟩) (.own id 0 out.length) (bump more q.toNat out) :=
                ⟨_, OutV.new (by rw [List.length_set, hnq]) upd_same hk, hset⟩
              rw [hszo] at fin
              simp only [ndW] at hrow fin
              have hca : w = .nils ∨ ∃ idw, w = .own idw 0 (y.words.map vI).length := by
                rcases hw with ⟨h, _⟩ | ⟨idw, h, _⟩
                · exact .inl h
                · exact .inr ⟨idw, h⟩
              have hgb : ∀ i : Nat, (i : Int) ≤ parR l q.toNat → (bump more q.toNat out)[i]? = l[i]? := fun i hi =>
                (bump_get (m := more) (p := q.toNat) (i := i) (out := out) (by omega)).trans (hget i (by omega))
              rcases hca with rfl | ⟨idw, rfl⟩
              · simp -implicitDefEqProofs only [BB,seval,← decide_not,okind,vpre,vpure,intBin,intPre,strBin,strPre,popTo,argSlots,fldV,fldAV,subCells,idxVV,idxAAV,idxSV,sliceV,sliceSV,boundV,szIs,storeOp,storeS,setRowV,eff,extV,buildV,splice,eqSV,fitsL,eqCells,eqCell,minmaxV,capV,binBV,nilCheckV,bytesV,V.cells,V.stays,h1,hv8,h9,h10,ho,hc,hnq,hrow,Nd.cells,hszo,a1,upd_ne hne,encNs_cells,encNs_stays]
                refine ⟨inR_i64 (by omega) (by omega), ?_⟩
                refine Runs.pcall rfl rfl rfl (hpc _) ?_
                (refine Runs.of_step Orc.nothing 300 ?_; simp -implicitDefEqProofs only [BB,seval,← decide_not,okind,vpre,vpure,intBin,intPre,strBin,strPre,popTo,argSlots,fldV,fldAV,subCells,idxVV,idxAAV,idxSV,sliceV,sliceSV,boundV,szIs,storeOp,storeS,setRowV,eff,extV,buildV,splice,eqSV,fitsL,eqCells,eqCell,minmaxV,capV,binBV,nilCheckV,bytesV,V.cells,V.stays,Orc.nothing])
                refine ⟨_, ?_, parR l q.toNat, g, bump more q.toNat out, rfl, by omega, by omega, by omega, by rw [bump_length, hol], heq, hgb, hsub.updK hk, ?_, ?_, ?_, ?_⟩
                · omega
                · rw [hv8]; exact fin
                all_goals first | exact h1 | exact h9 | rfl | simp
              · simp -implicitDefEqProofs only [BB,seval,← decide_not,okind,vpre,vpure,intBin,intPre,strBin,strPre,popTo,argSlots,fldV,fldAV,subCells,idxVV,idxAAV,idxSV,sliceV,sliceSV,boundV,szIs,storeOp,storeS,setRowV,eff,extV,buildV,splice,eqSV,fitsL,eqCells,eqCell,minmaxV,capV,binBV,nilCheckV,bytesV,V.cells,V.stays,h1,hv8,h9,h10,ho,hc,hnq,hrow,Nd.cells,hszo,a1,upd_ne hne,encNs_cells,encNs_stays]
                refine ⟨inR_i64 (by omega) (by omega), ?_⟩
                refine Runs.pcall rfl rfl rfl (hpc _) ?_
                (refine Runs.of_step Orc.nothing 300 ?_; simp -implicitDefEqProofs only [BB,seval,← decide_not,okind,vpre,vpure,intBin,intPre,strBin,strPre,popTo,argSlots,fldV,fldAV,subCells,idxVV,idxAAV,idxSV,sliceV,sliceSV,boundV,szIs,storeOp,storeS,setRowV,eff,extV,buildV,splice,eqSV,fitsL,eqCells,eqCell,minmaxV,capV,binBV,nilCheckV,bytesV,V.cells,V.stays,Orc.nothing])
                refine ⟨_, ?_, parR l q.toNat, g, bump more q.toNat out, rfl, by omega, by omega, by omega, by rw [bump_length, hol], heq, hgb, hsub.updK hk, ?_, ?_, ?_, ?_⟩
                · omega
                · rw [hv8]; exact fin
                all_goals first | exact h1 | exact h9 | rfl | simp
          · have hq1 : q = -1 := by omega
            subst hq1
            rw [ups_neg (p := -1) (by omega), bumps] at heq
            rw [heq]
            have hss := s1.trans hsub
            have hw := houtw.lessK s1
            have hca : (∃ v8, s 8 = v8 ∧ v8.cells = [v8]) := by
              obtain ⟨_, ho, _⟩ := houtw
              rcases ho with ⟨h, _⟩ | ⟨id, h, _⟩
              · exact ⟨_, h, rfl⟩
              · exact ⟨_, h, rfl⟩
            obtain ⟨v8, hv8, hv8c⟩ := hca
            rw [hv8] at hw
            simp -implicitDefEqProofs only [BB,seval,← decide_not,okind,vpre,vpure,intBin,intPre,strBin,strPre,popTo,argSlots,fldV,fldAV,subCells,idxVV,idxAAV,idxSV,sliceV,sliceSV,boundV,szIs,storeOp,storeS,setRowV,eff,extV,buildV,splice,eqSV,fitsL,eqCells,eqCell,minmaxV,capV,binBV,nilCheckV,bytesV,V.cells,V.stays,h1,hv8,h9,h10]
            exact ⟨_, _, SubStore.refl _, Wk.refl (SubStore.refl _) _, hss, _, rfl, hw⟩
end Go.Vc
namespace Go.Vc
open Go.Proofs
theorem restyle_sml {l : List Nd} {p : Nat} {s : Sty} (h : Sml l) : Sml (restyle l p s) := by
  refine ⟨by rw [restyle_length]; exact h.1, fun y hy => ?_⟩
  unfold restyle at hy
  split at hy
  · rename_i x hx
    rcases List.mem_or_eq_of_mem_set hy with hy | rfl
    · exact h.2 y hy
    · exact h.2 x (List.mem_of_getElem? hx)
  · exact h.2 y hy
theorem bump_words {m : Int} {p : Nat} {out : List Nd} {B : Nat} (h : ∀ x ∈ out, x.words.length ≤ B) : ∀ x ∈ bump m p out, x.words.length ≤ B := fun y hy => by
  unfold bump at hy
  split at hy
  · rename_i x hx
    rcases List.mem_or_eq_of_mem_set hy with hy | rfl
    · exact h y hy
    · exact h x (List.mem_of_getElem? hx)
  · exact h y hy
theorem bumps_words {m : Int} {B : Nat} : ∀ {ps : List Int} {out : List Nd}, (∀ x ∈ out, x.words.length ≤ B) → ∀ x ∈ bumps m ps out, x.words.length ≤ B
  | [], _, h => h
  | p :: ps, out, h => bumps_words (ps := ps) (bump_words h)
def Hlf (l : List Nd) : Prop := l.length ≤ 5000 ∧ ∀ x ∈ l, x.words.length ≤ 1000000000
theorem Hlf.sml {l : List Nd} (h : Hlf l) : Sml l := ⟨by have := h.1; omega, h.2⟩
theorem swapL_sml {l : List Nd} {x : Ed} {to : Int} (hl : Hlf l) (hx : Hlf x.sub) (h : x.pos ≤ to) (h0 : 0 ≤ x.pos) : Sml (swapL l x to) := by
  obtain ⟨h1, h2⟩ := hl
  obtain ⟨h3, h4⟩ := hx
  refine ⟨?_, bumps_words fun y hy => ?_⟩
  · rw [swapL, bumps_length]; simp; omega
  · simp only [List.mem_append] at hy
    rcases hy with (hy | hy) | hy
    · exact h2 y (List.mem_of_mem_take hy)
    · exact h4 y hy
    · exact h2 y (List.mem_of_mem_drop hy)
def outR (l : List Nd) (x : Ed) : Option (List Nd) := if x.kind = 1 then swapR l x else styleR l x
def doR (l : List Nd) (x : Ed) : Option (List Nd) :=
  if isB l = false ∨ x.kind < 1 ∨ 2 < x.kind then none else
  match outR l x with
  | none => none
  | some out => if isB out = true then some out else none
def errV {α : Type} (o : Option α) : V := if o.isSome then vI 0 else vI 4
theorem outR_sml {l out : List Nd} {x : Ed} (hl : Hlf l) (hb : isB l = true) (hx : Hlf x.sub) (h : outR l x = some out) : Sml out := by
  unfold outR at h
  split at h
  · rw [swapR] at h
    split at h
    · cases h
    · rename_i hn
      simp only [Option.some.injEq] at h
      subst h
      have h1 : (goesR l x.into x.pos x.many).2.2 = true := by
        cases hh : (goesR l x.into x.pos x.many).2.2
        · exact absurd (.inl hh) hn
        · rfl
      rcases hg : goesR l x.into x.pos x.many with ⟨fr, to, ok⟩
      rw [hg] at h1
      simp only at h1
      subst h1
      obtain ⟨rfl, g1, g2, g3, g4, _⟩ := goneR_facts hb hg
      exact swapL_sml hl hx g2 (by omega)
  · rw [styleR] at h
    split at h
    · cases h
    · simp only [Option.some.injEq] at h
      subst h
      exact restyle_sml hl.sml
def DoW (K σ : Store) (r : V) (o : Option (List Nd)) : Prop := ∃ v, r = .tup [v, errV o] ∧ OutW K σ v (o.getD [])
theorem DoW.retv {K σ : Store} {r : V} {o : Option (List Nd)} (h : DoW K σ r o) (hs : SubStore K σ) : RetV r σ fun r σ' => r = .tup [optV o, errV o] ∧ σ' = K := by
  obtain ⟨v, rfl, h⟩ := h
  exact ⟨_, K, hs, Wk.tup (by simp only [WkL]; exact ⟨h.wk (SubStore.refl K) hs, Wk.refl hs _, trivial⟩), rfl, rfl⟩
set_option maxRecDepth 100000 in
theorem do_w (l : List Nd) (x : Ed) (hl : Hlf l) (hx : Hlf x.sub) (σ : Store) : Contract Try.prog 7 [encNs l, encE x] σ fun r σ' => SubStore σ σ' ∧ DoW σ σ' r (doR l x) := by
  have hl1 := hl.1
  refine Contract.of_runs Try.func7 e7 k7 (by simp [c7]) ?_
  refine Runs.mix 8 ?_
  (refine Runs.of_step Orc.nothing 300 ?_; simp -implicitDefEqProofs only [BB,seval,← decide_not,okind,vpre,vpure,intBin,intPre,strBin,strPre,popTo,argSlots,fldV,fldAV,subCells,idxVV,idxAAV,idxSV,sliceV,sliceSV,boundV,szIs,storeOp,storeS,setRowV,eff,extV,buildV,splice,eqSV,fitsL,eqCells,eqCell,minmaxV,capV,binBV,nilCheckV,bytesV,V.cells,V.stays,Orc.nothing,c7,encE,Ed.cells,encNs_cells,encNs_stays])
  refine effR_new fun id1 σ1 s1 a1 f1 => ?_
  simp -implicitDefEqProofs only [BB,seval,← decide_not,okind,vpre,vpure,intBin,intPre,strBin,strPre,popTo,argSlots,fldV,fldAV,subCells,idxVV,idxAAV,idxSV,sliceV,sliceSV,boundV,szIs,storeOp,storeS,setRowV,eff,extV,buildV,splice,eqSV,fitsL,eqCells,eqCell,minmaxV,capV,binBV,nilCheckV,bytesV,V.cells,V.stays,a1,encNs_cells,encNs_stays]
  have hnone : ∀ τ, SubStore σ τ → doR l x = none → RetV (.tup [.nils, vI 4]) τ fun r σ' => SubStore σ σ' ∧ DoW σ σ' r (doR l x) := fun τ hτ h => by
    rw [h]
    exact ⟨_, _, SubStore.refl _, Wk.refl (SubStore.refl _) _, hτ, _, rfl, OutW.nil⟩
  refine Runs.pcall rfl rfl rfl (isv_c l hl.sml.fine _) ?_
  cases hb : isB l
  · (refine Runs.of_step Orc.nothing 300 ?_; simp -implicitDefEqProofs only [BB,seval,← decide_not,okind,vpre,vpure,intBin,intPre,strBin,strPre,popTo,argSlots,fldV,fldAV,subCells,idxVV,idxAAV,idxSV,sliceV,sliceSV,boundV,szIs,storeOp,storeS,setRowV,eff,extV,buildV,splice,eqSV,fitsL,eqCells,eqCell,minmaxV,capV,binBV,nilCheckV,bytesV,V.cells,V.stays,Orc.nothing,a1,encNs_cells,encNs_stays])
    exact hnone _ s1 (by rw [doR, if_pos (.inl hb)])
  · (refine Runs.of_step Orc.nothing 300 ?_; simp -implicitDefEqProofs only [BB,seval,← decide_not,okind,vpre,vpure,intBin,intPre,strBin,strPre,popTo,argSlots,fldV,fldAV,subCells,idxVV,idxAAV,idxSV,sliceV,sliceSV,boundV,szIs,storeOp,storeS,setRowV,eff,extV,buildV,splice,eqSV,fitsL,eqCells,eqCell,minmaxV,capV,binBV,nilCheckV,bytesV,V.cells,V.stays,Orc.nothing,a1,encNs_cells,encNs_stays])
    refine And.intro (fun c1 => And.intro (fun c2 => hnone _ s1 (by rw [doR, if_pos (.inr (.inr (by omega)))])) (fun c2 => ?_)) (fun c1 => hnone _ s1 (by rw [doR, if_pos (.inr (.inl (by omega)))]))
    have hdo : doR l x = match outR l x with
      | none => none
      | some out => if isB out = true then some out else none := by
      rw [doR, if_neg]
      rintro (h | h | h)
      · rw [hb] at h; cases h
      · omega
      · omega
    have key : ∃ f, (x.kind = 1 ∧ f = 40 ∨ x.kind = 2 ∧ f = 41) ∧ ∀ σ, Contract Try.prog f [encH x l] σ fun r σ' => SubStore σ σ' ∧ OptW σ σ' r (outR l x) := by
      by_cases hk : x.kind = 1
      · exact ⟨40, .inl ⟨hk, rfl⟩, by rw [outR, if_pos hk]; exact swap_w x l hl.sml hb hx.sml⟩
      · exact ⟨41, .inr ⟨by omega, rfl⟩, by rw [outR, if_neg hk]; exact style_w x l hl.sml⟩
    obtain ⟨f, hf, hfc⟩ := key
    have hidx : idxVV false 3 1 (.agg [.nilfn, .fn 40 [], .fn 41 []]) (.int .i64 x.kind) = some (.fn f []) := by
      rcases hf with ⟨hk, rfl⟩ | ⟨hk, rfl⟩ <;> rw [hk] <;> rfl
    have hbu : buildV [.int .i64 0, .int .i64 0, .int .i64 0, .int .i64 0, .nils, .int .i64 0, .int .i64 0, .int .i64 0, .int .i64 0, .int .i64 0, .int .i64 0, .int .i64 0, .int .i64 0, .int .i64 0, .int .i64 0, .int .i64 0, .int .i64 0, .nils]
        [(0, 17, encE x), (17, 1, encNs l)] = some [.int .i64 x.kind, .int .i64 x.into, .int .i64 x.pos, .int .i64 x.many, encNs x.sub, .int .i64 x.st.top, .int .i64 x.st.bottom, .int .i64 x.st.padTop, .int .i64 x.st.padBottom, .int .i64 x.st.inset, .int .i64 x.st.orphans, .int .i64 x.st.widows, .int .i64 x.st.head, .int .i64 x.st.before, .int .i64 x.st.after, .int .i64 x.st.inside, .int .i64 x.st.clear, encNs l] := rfl
    simp only [encE,Ed.cells] at hbu
    refine Runs.regE (by kernel_rfl) [1, 2, 4, 5, 6, 0, 3, 7, 8, 9, 10, 11, 12] [[], [], [1], [0, 1, 2], [], [], [4, 5], [0, 1, 2, 3, 4, 5, 6], [0, 1, 2, 3, 4, 5, 6, 7], [0, 1, 2, 3, 4, 5, 6, 7, 8], [0, 1, 2, 3, 4, 5, 6, 7, 8], [0, 1, 2, 3, 4, 5, 6, 7, 8, 9], [0, 1, 2, 3, 4, 5, 6, 7, 8, 9, 10, 11]] [2, 4, 8, 10, 12, 0, 5, 9, 6, 14, 16, 18, 20, 22, 24] (by kernel_rfl) (by kernel_rfl) ?_
    refine RE.seg (n := 0) [0, 5, 9, 6, 14, 16, 18, 20, 22, 24] [2, 4, 8, 10, 12] [⟨(.some 23),(.fldA .false 0 1 (.t 3)),.none⟩,⟨(.some 24),(.load .false 1 (.t 23)),.none⟩,⟨(.some 26),(.load .true 17 (.t 3)),.none⟩,⟨(.some 27),(.mov (.t 0)),.none⟩,⟨(.some 28),(.build [(.int .i64 0),(.int .i64 0),(.int .i64 0),(.int .i64 0),.nils,(.int .i64 0),(.int .i64 0),(.int .i64 0),(.int .i64 0),(.int .i64 0),(.int .i64 0),(.int .i64 0),(.int .i64 0),(.int .i64 0),(.int .i64 0),(.int .i64 0),(.int .i64 0),.nils] [(0,(17,(.t 26))),(17,(1,(.t 27)))]),.none⟩] rfl rfl ?_
    (refine Go.of_step Orc.nothing 300 _ _ ?_; simp -implicitDefEqProofs only [BB,seval,← decide_not,okind,vpre,vpure,intBin,intPre,strBin,strPre,popTo,argSlots,fldV,fldAV,subCells,idxVV,idxAAV,idxSV,sliceV,sliceSV,boundV,szIs,storeOp,storeS,setRowV,eff,extV,splice,eqSV,fitsL,eqCells,eqCell,minmaxV,capV,binBV,nilCheckV,bytesV,V.cells,V.stays,Orc.nothing,a1,encNs_cells,encNs_stays,hbu])
    refine RE.pcall rfl rfl rfl rfl rfl (outcomes_c _) ?_
    refine RE.chk rfl rfl rfl rfl rfl trivial (by simp -implicitDefEqProofs only [BB,seval,← decide_not,okind,vpre,vpure,intBin,intPre,strBin,strPre,popTo,argSlots,fldV,fldAV,subCells,idxVV,idxAAV,idxSV,sliceV,sliceSV,boundV,szIs,storeOp,storeS,setRowV,eff,extV,buildV,splice,eqSV,fitsL,eqCells,eqCell,minmaxV,capV,binBV,nilCheckV,bytesV,V.cells,V.stays,a1,encNs_cells,encNs_stays]) ?_
    refine RE.chk rfl rfl rfl rfl rfl trivial (by simp -implicitDefEqProofs only [BB,seval,← decide_not,okind,vpre,vpure,intBin,intPre,strBin,strPre,popTo,argSlots,fldV,fldAV,subCells,idxVV,idxAAV,idxSV,sliceV,sliceSV,boundV,szIs,storeOp,storeS,setRowV,eff,extV,buildV,splice,eqSV,fitsL,eqCells,eqCell,minmaxV,capV,binBV,nilCheckV,bytesV,V.cells,V.stays,a1,encNs_cells,encNs_stays]) ?_
    refine RE.seg (n := 0) [14, 16, 18, 20, 22, 24] [6] [⟨(.some 25),(.idxV .false 3 1 (.t 22) (.t 24)),.none⟩] rfl rfl ?_
    (refine Go.of_step Orc.nothing 300 _ _ ?_; simp -implicitDefEqProofs only [BB,seval,← decide_not,okind,vpre,vpure,intBin,intPre,strBin,strPre,popTo,argSlots,fldV,fldAV,subCells,idxAAV,idxSV,sliceV,sliceSV,boundV,szIs,storeOp,storeS,setRowV,eff,extV,buildV,splice,eqSV,fitsL,eqCells,eqCell,minmaxV,capV,binBV,nilCheckV,bytesV,V.cells,V.stays,Orc.nothing,hidx])
    refine RE.call rfl rfl rfl rfl rfl (hfc _) ?_
    rintro r σ2 ⟨hs2, v, rfl, hw⟩
    simp only at hs2 hw
    have hsml := fun out (h : outR l x = some out) => outR_sml hl hb hx h
    have hs12 := s1.trans hs2
    rw [hdo]
    rw [hdo] at hnone
    generalize outR l x = o at *
    refine RE.seg (n := 0) [] [16, 18, 20, 22, 24] [⟨(.some 21),(.mov (.t 29)),.none⟩,⟨(.some 30),(.ext 0 (.t 21)),.none⟩,⟨(.some 31),(.ext 1 (.t 21)),.none⟩,⟨(.some 6),(.mov (.t 30)),.none⟩,⟨(.some 7),(.mov (.t 31)),.none⟩] rfl rfl ?_
    have hca : v.cells = [v] := by
      obtain ⟨_, ho, _⟩ := hw
      rcases ho with ⟨h, _⟩ | ⟨id, h, _⟩ <;> rw [h] <;> rfl
    cases o with
    | none =>
      (refine Go.of_step Orc.nothing 300 _ _ ?_; simp -implicitDefEqProofs only [BB,seval,← decide_not,okind,vpre,vpure,intBin,intPre,strBin,strPre,popTo,argSlots,fldV,fldAV,subCells,idxVV,idxAAV,idxSV,sliceV,sliceSV,boundV,szIs,storeOp,storeS,setRowV,eff,extV,buildV,splice,eqSV,fitsL,eqCells,eqCell,minmaxV,capV,binBV,nilCheckV,bytesV,V.cells,V.stays,Orc.nothing,Option.isSome_none])
      (refine Runs.of_step Orc.nothing 300 ?_; simp -implicitDefEqProofs only [BB,seval,← decide_not,okind,vpre,vpure,intBin,intPre,strBin,strPre,popTo,argSlots,fldV,fldAV,subCells,idxVV,idxAAV,idxSV,sliceV,sliceSV,boundV,szIs,storeOp,storeS,setRowV,eff,extV,buildV,splice,eqSV,fitsL,eqCells,eqCell,minmaxV,capV,binBV,nilCheckV,bytesV,V.cells,V.stays,Orc.nothing])
      exact hnone _ hs12 rfl
    | some out =>
      (refine Go.of_step Orc.nothing 300 _ _ ?_; simp -implicitDefEqProofs only [BB,seval,← decide_not,okind,vpre,vpure,intBin,intPre,strBin,strPre,popTo,argSlots,fldV,fldAV,subCells,idxVV,idxAAV,idxSV,sliceV,sliceSV,boundV,szIs,storeOp,storeS,setRowV,eff,extV,buildV,splice,eqSV,fitsL,eqCells,eqCell,minmaxV,capV,binBV,nilCheckV,bytesV,V.cells,V.stays,Orc.nothing,Option.isSome_some])
      (refine Runs.of_step Orc.nothing 300 ?_; simp -implicitDefEqProofs only [BB,seval,← decide_not,okind,vpre,vpure,intBin,intPre,strBin,strPre,popTo,argSlots,fldV,fldAV,subCells,idxVV,idxAAV,idxSV,sliceV,sliceSV,boundV,szIs,storeOp,storeS,setRowV,eff,extV,buildV,splice,eqSV,fitsL,eqCells,eqCell,minmaxV,capV,binBV,nilCheckV,bytesV,V.cells,V.stays,Orc.nothing])
      have hic : Contract Try.prog 20 [v] σ2 fun r σ' => r = .bool (isB out) ∧ σ' = σ2 :=
        PFun.borrow (args' := [encNs out]) (by simp only [WkL]; exact ⟨hw.wk (fun _ _ h => by cases h) (fun _ _ h => by cases h), trivial⟩) (isv_c out (hsml out rfl).fine) rfl
      refine Runs.pcall rfl rfl rfl hic ?_
      simp only at hnone ⊢
      cases hbo : isB out
      · rw [hbo] at hnone
        (refine Runs.of_step Orc.nothing 300 ?_; simp -implicitDefEqProofs only [BB,seval,← decide_not,okind,vpre,vpure,intBin,intPre,strBin,strPre,popTo,argSlots,fldV,fldAV,subCells,idxVV,idxAAV,idxSV,sliceV,sliceSV,boundV,szIs,storeOp,storeS,setRowV,eff,extV,buildV,splice,eqSV,fitsL,eqCells,eqCell,minmaxV,capV,binBV,nilCheckV,bytesV,V.cells,V.stays,Orc.nothing])
        exact hnone _ hs12 (by simp)
      · (refine Runs.of_step Orc.nothing 300 ?_; simp -implicitDefEqProofs only [BB,seval,← decide_not,okind,vpre,vpure,intBin,intPre,strBin,strPre,popTo,argSlots,fldV,fldAV,subCells,idxVV,idxAAV,idxSV,sliceV,sliceSV,boundV,szIs,storeOp,storeS,setRowV,eff,extV,buildV,splice,eqSV,fitsL,eqCells,eqCell,minmaxV,capV,binBV,nilCheckV,bytesV,V.cells,V.stays,Orc.nothing])
        exact ⟨_, _, SubStore.refl _, Wk.refl (SubStore.refl _) _, hs12, _, rfl, hw.lessK s1⟩
theorem do_c (l : List Nd) (x : Ed) (hl : Hlf l) (hx : Hlf x.sub) : PFun Try.prog 7 [encNs l, encE x] (.tup [optV (doR l x), errV (doR l x)]) := fun σ =>
  (do_w l x hl hx σ).weak fun _ _ h => h.2.retv h.1
end Go.Vc
namespace Go.Vc
open Go.Proofs
def Ed.zero : Ed := ⟨0, 0, 0, 0, [], Sty.zero⟩
def stI (l : List Nd) (i : Nat) : Sty := ((l[i]?).map Nd.st).getD Sty.zero
theorem stI_eq {l : List Nd} {i : Nat} (h : i < l.length) : stI l i = l[i].st := by simp [stI, List.getElem?_eq_getElem h]
def cutL (l : List Nd) (a e : Int) : List Nd := (l.drop a.toNat).take (e.toNat - a.toNat)
def backR (l : List Nd) (x : Ed) : Ed :=
  if x.kind = 2 then ⟨2, 0, x.pos, 0, [], stI l x.pos.toNat⟩
  else ⟨1, x.into, x.pos, (kidsR x.sub (-1)).length, cutL l x.pos (goesR l x.into x.pos x.many).2.1, Sty.zero⟩
def backC (l : List Nd) (x : Ed) : Ed := if (doR l x).isSome then backR l x else Ed.zero
theorem wk_edN {σ σ' : Store} (h : SubStore σ' σ) (k i p m : Int) (s : Sty) : Wk σ σ' (.agg [.int .i64 k, .int .i64 i, .int .i64 p, .int .i64 m, .nils, .int .i64 s.top, .int .i64 s.bottom, .int .i64 s.padTop, .int .i64 s.padBottom, .int .i64 s.inset, .int .i64 s.orphans, .int .i64 s.widows, .int .i64 s.head, .int .i64 s.before, .int .i64 s.after, .int .i64 s.inside, .int .i64 s.clear]) (encE ⟨k, i, p, m, [], s⟩) := by
  simp only [encE,Ed.cells]
  refine Wk.agg ?_
  simp only [WkL]
  exact ⟨Wk.refl h _, Wk.refl h _, Wk.refl h _, Wk.refl h _, Wk.nils 20, Wk.refl h _, Wk.refl h _, Wk.refl h _, Wk.refl h _, Wk.refl h _, Wk.refl h _, Wk.refl h _, Wk.refl h _, Wk.refl h _, Wk.refl h _, Wk.refl h _, Wk.refl h _, trivial⟩
theorem doR_some {l out : List Nd} {x : Ed} (h : doR l x = some out) : isB l = true ∧ isB out = true ∧ outR l x = some out ∧ (x.kind = 1 ∨ x.kind = 2) := by
  rw [doR] at h
  split at h
  · cases h
  · rename_i hn
    have hb : isB l = true := by
      cases hb : isB l
      · exact absurd (.inl hb) hn
      · rfl
    split at h
    · cases h
    · rename_i o ho
      split at h
      · rename_i hbo
        simp only [Option.some.injEq] at h
        subst h
        exact ⟨hb, hbo, ho, by omega⟩
      · cases h
theorem swapR_some {l out : List Nd} {x : Ed} (h : swapR l x = some out) : ∃ to, goesR l x.into x.pos x.many = (x.pos, to, true) ∧ isB x.sub = true ∧ x.st = Sty.zero ∧ out = swapL l x to := by
  rw [swapR] at h
  split at h
  · cases h
  · rename_i hn
    simp only [Option.some.injEq] at h
    have h1 : (goesR l x.into x.pos x.many).2.2 = true := by
      cases hh : (goesR l x.into x.pos x.many).2.2
      · exact absurd (.inl hh) hn
      · rfl
    have h2 : isB x.sub = true := by
      cases hh : isB x.sub
      · exact absurd (.inr (.inl hh)) hn
      · rfl
    have h3 : x.st = Sty.zero := by
      by_cases hh : x.st = Sty.zero
      · exact hh
      · exact absurd (.inr (.inr hh)) hn
    have hgo : goesR l x.into x.pos x.many = ((goesR l x.into x.pos x.many).1, (goesR l x.into x.pos x.many).2.1, true) := by rw [← h1]
    have h4 : (goesR l x.into x.pos x.many).1 = x.pos := by
      rw [goesR] at h1 ⊢
      split
      · rename_i h5; rw [if_pos h5] at h1; cases h1
      · rename_i h5
        rw [if_neg h5] at h1
        split
        · rename_i h6; rw [if_pos h6] at h1; cases h1
        · rfl
    rw [h4] at hgo
    exact ⟨_, hgo, h2, h3, h.symm⟩
theorem styleR_some {l out : List Nd} {x : Ed} (h : styleR l x = some out) : blockR l x.pos = true ∧ x.into = 0 ∧ x.many = 0 ∧ x.sub = [] ∧ out = restyle l x.pos.toNat x.st := by
  rw [styleR] at h
  split at h
  · cases h
  · rename_i hn
    simp only [Option.some.injEq] at h
    have h1 : blockR l x.pos = true := by
      cases hh : blockR l x.pos
      · exact absurd (.inl hh) hn
      · rfl
    have h2 : x.sub = [] := by
      cases hs : x.sub with
      | nil => rfl
      | cons a b => exact absurd (.inr (.inr (.inr (by simp [hs])))) hn
    exact ⟨h1, by omega, by omega, h2, h.symm⟩
theorem blockR_lt {l : List Nd} {a : Int} (h : blockR l a = true) : 0 ≤ a ∧ a.toNat < l.length ∧ kdI l a.toNat = 1 := by
  simp only [blockR,Bool.and_eq_true,decide_eq_true_eq] at h
  have := hasI_iff.1 h.1
  exact ⟨this.1, by omega, h.2⟩
set_option maxRecDepth 100000 in
theorem back_c (l : List Nd) (x : Ed) (hl : Hlf l) (hx : Hlf x.sub) : PFun Try.prog 8 [encNs l, encE x] (.tup [encE (backC l x), errV (doR l x)]) := fun σ => by
  have hl1 := hl.1
  obtain ⟨res, hres⟩ : ∃ v, v = encE (backC l x) := ⟨_, rfl⟩
  rw [← hres]
  refine Contract.of_runs Try.func8 e8 k8 (by simp [c8]) ?_
  refine Runs.mix 12 ?_
  (refine Runs.of_step Orc.nothing 300 ?_; simp -implicitDefEqProofs only [BB,seval,← decide_not,okind,vpre,vpure,intBin,intPre,strBin,strPre,popTo,argSlots,fldV,fldAV,subCells,idxVV,idxAAV,idxSV,sliceV,sliceSV,boundV,szIs,storeOp,storeS,setRowV,eff,extV,buildV,splice,eqSV,fitsL,eqCells,eqCell,minmaxV,capV,binBV,nilCheckV,bytesV,V.cells,V.stays,Orc.nothing,c8,encE,Ed.cells,encNs_cells,encNs_stays])
  refine effR_new fun id1 σ1 s1 a1 f1 => ?_
  simp -implicitDefEqProofs only [BB,seval,← decide_not,okind,vpre,vpure,intBin,intPre,strBin,strPre,popTo,argSlots,fldV,fldAV,subCells,idxVV,idxAAV,idxSV,sliceV,sliceSV,boundV,szIs,storeOp,storeS,setRowV,eff,extV,buildV,splice,eqSV,fitsL,eqCells,eqCell,minmaxV,capV,binBV,nilCheckV,bytesV,V.cells,V.stays,a1,encNs_cells,encNs_stays]
  refine effR_new fun id2 σ2 s2 a2 f2 => ?_
  have n12 := ne_new a1 f2
  have a10 := s2 _ _ a1
  have hs := s1.trans s2
  simp -implicitDefEqProofs only [BB,seval,← decide_not,okind,vpre,vpure,intBin,intPre,strBin,strPre,popTo,argSlots,fldV,fldAV,subCells,idxVV,idxAAV,idxSV,sliceV,sliceSV,boundV,szIs,storeOp,storeS,setRowV,eff,extV,buildV,splice,eqSV,fitsL,eqCells,eqCell,minmaxV,capV,binBV,nilCheckV,bytesV,V.cells,V.stays,a10,a2,encNs_cells,encNs_stays]
  refine Runs.pcall rfl rfl rfl (do_c l x hl hx _) ?_
  have g2 := s1.none f2
  cases hd : doR l x with
  | none =>
    (refine Runs.of_step Orc.nothing 300 ?_; simp -implicitDefEqProofs only [BB,seval,← decide_not,okind,vpre,vpure,intBin,intPre,strBin,strPre,popTo,argSlots,fldV,fldAV,subCells,idxVV,idxAAV,idxSV,sliceV,sliceSV,boundV,szIs,storeOp,storeS,setRowV,eff,extV,buildV,splice,eqSV,fitsL,eqCells,eqCell,minmaxV,capV,binBV,nilCheckV,bytesV,V.cells,V.stays,Orc.nothing,errV,optV,Option.isSome_none,Option.getD_none,a10,a2,encNs_cells,encNs_stays])
    have hbc : backC l x = Ed.zero := by rw [backC, hd]; rfl
    rw [hbc] at hres
    have hsf := hs.updK g2 (o := ⟨26, 17, [.agg [.int .i64 0, .int .i64 0, .int .i64 0, .int .i64 0, .nils, .int .i64 0, .int .i64 0, .int .i64 0, .int .i64 0, .int .i64 0, .int .i64 0, .int .i64 0, .int .i64 0, .int .i64 0, .int .i64 0, .int .i64 0, .int .i64 0]]⟩)
    refine ⟨.tup [encE Ed.zero, vI 4], σ, hsf, Wk.tup ?_, by rw [hres], rfl⟩
    simp only [WkL]
    exact ⟨wk_edN hsf 0 0 0 0 Sty.zero, Wk.refl hsf _, trivial⟩
  | some out =>
    have hbc : backC l x = backR l x := by rw [backC, hd]; rfl
    rw [hbc] at hres
    obtain ⟨hb, hbo, hout, hk⟩ := doR_some hd
    (refine Runs.of_step Orc.nothing 300 ?_; simp -implicitDefEqProofs only [BB,seval,← decide_not,okind,vpre,vpure,intBin,intPre,strBin,strPre,popTo,argSlots,fldV,fldAV,subCells,idxVV,idxAAV,idxSV,sliceV,sliceSV,boundV,szIs,storeOp,storeS,setRowV,eff,extV,splice,eqSV,fitsL,eqCells,eqCell,minmaxV,capV,binBV,nilCheckV,bytesV,Orc.nothing,errV,optV,Option.isSome_some,Option.getD_some,a10,a2,encNs_cells,encNs_stays,V.cells_agg,V.cells_int,V.cells_nils,V.cells_own,V.cells_sl,V.cells_str,V.cells_bool,V.cells_fn,V.cells_ptr,V.cells_rp,V.stays_agg,V.stays_int,V.stays_nils,V.stays_own,V.stays_sl,V.stays_str,V.stays_bool,V.stays_fn,V.stays_ptr,V.stays_rp])
    refine And.intro (fun hk2 => ?_) (fun hk2 => ?_)
    · rw [outR, if_neg (by omega)] at hout
      obtain ⟨hbl, h1, h2, h3, h4⟩ := styleR_some hout
      obtain ⟨hp0, hp, _⟩ := blockR_lt hbl
      have hx := idxAV_encNsI (σ := σ2) hp0 hp
      have hst := stI_eq hp
      have hsb : ∀ (k p : Int) (s : Sty), buildV [.int .i64 0, .int .i64 0, .int .i64 0, .int .i64 0, .nils, .int .i64 0, .int .i64 0, .int .i64 0, .int .i64 0, .int .i64 0, .int .i64 0, .int .i64 0, .int .i64 0, .int .i64 0, .int .i64 0, .int .i64 0, .int .i64 0]
          [(0, 1, .int .i64 k), (2, 1, .int .i64 p), (5, 12, .agg [vI s.top, vI s.bottom, vI s.padTop, vI s.padBottom, vI s.inset, vI s.orphans, vI s.widows, vI s.head, vI s.before, vI s.after, vI s.inside, vI s.clear])] = some [.int .i64 k, .int .i64 0, .int .i64 p, .int .i64 0, .nils, .int .i64 s.top, .int .i64 s.bottom, .int .i64 s.padTop, .int .i64 s.padBottom, .int .i64 s.inset, .int .i64 s.orphans, .int .i64 s.widows, .int .i64 s.head, .int .i64 s.before, .int .i64 s.after, .int .i64 s.inside, .int .i64 s.clear] := fun _ _ _ => rfl
      rw [hk2]
      simp -implicitDefEqProofs only [BB,seval,← decide_not,okind,vpre,vpure,intBin,intPre,strBin,strPre,popTo,argSlots,fldV,fldAV,subCells,idxVV,idxAAV,idxSV,sliceV,sliceSV,boundV,szIs,storeOp,storeS,setRowV,eff,extV,splice,eqSV,fitsL,eqCells,eqCell,minmaxV,capV,binBV,nilCheckV,bytesV,hx,Nd.cells,hst,hsb,a10,a2,encNs_cells,encNs_stays,V.cells_agg,V.cells_int,V.cells_nils,V.cells_own,V.cells_sl,V.cells_str,V.cells_bool,V.cells_fn,V.cells_ptr,V.cells_rp,V.stays_agg,V.stays_int,V.stays_nils,V.stays_own,V.stays_sl,V.stays_str,V.stays_bool,V.stays_fn,V.stays_ptr,V.stays_rp,hk2]
      have hbk : backR l x = ⟨2, 0, x.pos, 0, [], stI l x.pos.toNat⟩ := by rw [backR, if_pos hk2]
      rw [hbk] at hres
      rw [hst] at hres
      refine ⟨_, σ, ?_, Wk.tup ?_, by rw [hres], rfl⟩
      · exact hs.updK g2
      · simp only [WkL]
        exact ⟨wk_edN (hs.updK g2) 2 0 x.pos 0 _, Wk.refl (hs.updK g2) _, trivial⟩
    · have hk1 : x.kind = 1 := by omega
      rw [outR, if_pos hk1] at hout
      obtain ⟨to, hg, hbs, hz, ho⟩ := swapR_some hout
      have hbk : backR l x = ⟨1, x.into, x.pos, (kidsR x.sub (-1)).length, cutL l x.pos to, Sty.zero⟩ := by rw [backR, if_neg (by omega), hg]
      rw [hbk] at hres
      have hgc := goes_c x l hl.sml.fine hb
      rw [hg] at hgc
      obtain ⟨_, e1, e2, e3, _⟩ := goneR_facts hb hg
      have hbu : buildV [.int .i64 0, .int .i64 0, .int .i64 0, .int .i64 0, .nils, .int .i64 0, .int .i64 0, .int .i64 0, .int .i64 0, .int .i64 0, .int .i64 0, .int .i64 0, .int .i64 0, .int .i64 0, .int .i64 0, .int .i64 0, .int .i64 0, .nils]
          [(0, 17, encE x), (17, 1, encNs l)] = some [.int .i64 x.kind, .int .i64 x.into, .int .i64 x.pos, .int .i64 x.many, encNs x.sub, .int .i64 x.st.top, .int .i64 x.st.bottom, .int .i64 x.st.padTop, .int .i64 x.st.padBottom, .int .i64 x.st.inset, .int .i64 x.st.orphans, .int .i64 x.st.widows, .int .i64 x.st.head, .int .i64 x.st.before, .int .i64 x.st.after, .int .i64 x.st.inside, .int .i64 x.st.clear, encNs l] := rfl
      simp only [encE,Ed.cells] at hbu
      simp -implicitDefEqProofs only [BB,seval,← decide_not,okind,vpre,vpure,intBin,intPre,strBin,strPre,popTo,argSlots,fldV,fldAV,subCells,idxVV,idxAAV,idxSV,sliceV,sliceSV,boundV,szIs,storeOp,storeS,setRowV,eff,extV,splice,eqSV,fitsL,eqCells,eqCell,minmaxV,capV,binBV,nilCheckV,bytesV,hbu,a10,a2,encNs_cells,encNs_stays,V.cells_agg,V.cells_int,V.cells_nils,V.cells_own,V.cells_sl,V.cells_str,V.cells_bool,V.cells_fn,V.cells_ptr,V.cells_rp,V.stays_agg,V.stays_int,V.stays_nils,V.stays_own,V.stays_sl,V.stays_str,V.stays_bool,V.stays_fn,V.stays_ptr,V.stays_rp]
      refine Runs.pcall rfl rfl rfl (hgc _) ?_
      (refine Runs.of_step Orc.nothing 300 ?_; simp -implicitDefEqProofs only [BB,seval,← decide_not,okind,vpre,vpure,intBin,intPre,strBin,strPre,popTo,argSlots,fldV,fldAV,subCells,idxVV,idxAAV,idxSV,sliceV,sliceSV,boundV,szIs,storeOp,storeS,setRowV,eff,extV,buildV,splice,eqSV,fitsL,eqCells,eqCell,minmaxV,capV,binBV,nilCheckV,bytesV,Orc.nothing,a10,a2,encNs_cells,encNs_stays,V.cells_agg,V.cells_int,V.cells_nils,V.cells_own,V.cells_sl,V.cells_str,V.cells_bool,V.cells_fn,V.cells_ptr,V.cells_rp,V.stays_agg,V.stays_int,V.stays_nils,V.stays_own,V.stays_sl,V.stays_str,V.stays_bool,V.stays_fn,V.stays_ptr,V.stays_rp])
      refine Go.pcall rfl (tops_c x.sub hx.sml.fine hbs) ?_
      have hsl := fun σ => sliceV_encNs (σ := σ) (l := l) (s := x.pos) (e := to) (by omega) e2 e3
      have hcut : (l.drop x.pos.toNat).take (to.toNat - x.pos.toNat) = cutL l x.pos to := rfl
      rw [hcut] at hsl
      have hlc : Sml (cutL l x.pos to) := ⟨by rw [cutL]; simp; omega, fun y hy => hl.2 y (List.mem_of_mem_drop (List.mem_of_mem_take hy))⟩
      (refine Go.of_step Orc.nothing 300 _ _ ?_; simp -implicitDefEqProofs only [BB,seval,← decide_not,okind,vpre,vpure,intBin,intPre,strBin,strPre,popTo,argSlots,fldV,fldAV,subCells,idxVV,idxAAV,idxSV,sliceSV,boundV,szIs,storeOp,storeS,setRowV,eff,extV,buildV,splice,eqSV,fitsL,eqCells,eqCell,minmaxV,capV,binBV,nilCheckV,bytesV,Orc.nothing,a10,a2,encNs_cells,encNs_stays,V.cells_agg,V.cells_int,V.cells_nils,V.cells_own,V.cells_sl,V.cells_str,V.cells_bool,V.cells_fn,V.cells_ptr,V.cells_rp,V.stays_agg,V.stays_int,V.stays_nils,V.stays_own,V.stays_sl,V.stays_str,V.stays_bool,V.stays_fn,V.stays_ptr,V.stays_rp,hsl])
      refine Go.pcall rfl (own9_c (cutL l x.pos to) hlc) ?_
      have hsb : ∀ (k i p m : Int) (s : List Nd), buildV [.int .i64 0, .int .i64 0, .int .i64 0, .int .i64 0, .nils, .int .i64 0, .int .i64 0, .int .i64 0, .int .i64 0, .int .i64 0, .int .i64 0, .int .i64 0, .int .i64 0, .int .i64 0, .int .i64 0, .int .i64 0, .int .i64 0]
          [(0, 1, .int .i64 k), (1, 1, .int .i64 i), (2, 1, .int .i64 p), (3, 1, .int .i64 m), (4, 1, encNs s)] = some [.int .i64 k, .int .i64 i, .int .i64 p, .int .i64 m, encNs s, .int .i64 0, .int .i64 0, .int .i64 0, .int .i64 0, .int .i64 0, .int .i64 0, .int .i64 0, .int .i64 0, .int .i64 0, .int .i64 0, .int .i64 0, .int .i64 0] := fun _ _ _ _ _ => rfl
      (refine Go.of_step Orc.nothing 300 _ _ ?_; simp -implicitDefEqProofs only [BB,seval,← decide_not,okind,vpre,vpure,intBin,intPre,strBin,strPre,popTo,argSlots,fldV,fldAV,subCells,idxVV,idxAAV,idxSV,sliceV,sliceSV,boundV,szIs,storeOp,storeS,setRowV,eff,extV,splice,eqSV,fitsL,eqCells,eqCell,minmaxV,capV,binBV,nilCheckV,bytesV,Orc.nothing,a10,a2,encNs_cells,encNs_stays,V.cells_agg,V.cells_int,V.cells_nils,V.cells_own,V.cells_sl,V.cells_str,V.cells_bool,V.cells_fn,V.cells_ptr,V.cells_rp,V.stays_agg,V.stays_int,V.stays_nils,V.stays_own,V.stays_sl,V.stays_str,V.stays_bool,V.stays_fn,V.stays_ptr,V.stays_rp,hsb,hk1])
      exact RetV.pure (hs.updK g2) (by rw [hres]; rfl)
end Go.Vc
namespace Go.Vc
open Go.Proofs
theorem endS_none {pos many : Int} : ∀ {p : List Int}, (∀ x ∈ p, x ≠ pos) → endS pos many p = -1
  | [], _ => rfl
  | q :: r, h => by
    rw [endS, if_neg (fun hh => h q (by simp) hh.1)]
    exact endS_none fun x hx => h x (by simp [hx])
theorem endS_eq {pos many : Int} (hm : 0 ≤ many) : ∀ {a : Int} (p : List Int) (i : Nat), Srt a p →
    endS pos many p = if idxI pos p i < 0 ∨ many ≥ (p.length : Int) + i - idxI pos p i then -1 else (p[(idxI pos p i - i + many).toNat]?).getD 0
  | _, [], i, _ => by simp [endS, idxI]
  | a, q :: r, i, ⟨h1, h2⟩ => by
    rw [endS, idxI]
    by_cases hq : pos = q
    · subst hq
      rw [if_pos rfl]
      by_cases hlt : many < (r.length : Int) + 1
      · rw [if_pos ⟨rfl, hlt⟩, if_neg (by simp; omega)]
        congr 2
        omega
      · rw [if_neg (fun h => hlt h.2), if_pos (by simp; omega)]
        exact endS_none fun x hx => by have := Srt.ge h2 x hx; omega
    · rw [if_neg (fun h => hq h.1.symm), if_neg hq, endS_eq hm r (i + 1) h2]
      have hr := idxI_range pos r (i + 1)
      by_cases hc : idxI pos r (i + 1) < 0 ∨ many ≥ (r.length : Int) + ((i + 1 : Nat) : Int) - idxI pos r (i + 1)
      · rw [if_pos hc, if_pos (by simp only [List.length_cons]; omega)]
      · rw [if_neg hc, if_neg (by simp only [List.length_cons]; omega)]
        have e : (idxI pos r (i + 1) - (i : Int) + many).toNat = (idxI pos r (i + 1) - ((i + 1 : Nat) : Int) + many).toNat + 1 := by omega
        rw [e, List.getElem?_cons_succ]
theorem gone_end {l : List Nd} (hb : isB l = true) (into pos many : Int) :
    (goesR l into pos many).2.2 = decide (0 ≤ endR l into pos many) ∧ ((goesR l into pos many).2.2 = true → (goesR l into pos many).2.1 = endR l into pos many) := by
  rw [goesR, endR]
  by_cases h1 : into ≠ -1 ∧ blockR l into = false
  · rw [if_pos h1, if_pos (.inl h1)]; simp
  · rw [if_neg h1]
    have hin : into = -1 ∨ hasI l into = true := by
      by_cases h : into = -1
      · exact .inl h
      · right
        cases hbk : blockR l into
        · exact absurd ⟨h, hbk⟩ h1
        · simp only [blockR,Bool.and_eq_true] at hbk; exact hbk.1
    by_cases h2 : many < 0
    · rw [if_pos (.inr (.inl h2)), if_pos (.inr h2)]; simp
    · rw [if_neg (show ¬ ((into ≠ -1 ∧ blockR l into = false) ∨ many < 0) from fun h => h.elim h1 h2)]
      obtain ⟨a, e, g1, g2, _⟩ := rowOfI_facts hb hin
      obtain ⟨hp, hs, hle⟩ := placesR_eq hb hin g1
      have hge := Srt.ge hs
      rw [endS_eq (by omega) (placesR l into) 0 hs]
      have hr := idxI_range pos (placesR l into) 0
      have hi1 : -1 ≤ into := by
        rcases hin with h | h
        · omega
        · have := hasI_iff.1 h; omega
      generalize placesR l into = p at *
      generalize idxI pos p 0 = k at *
      by_cases hc : k < 0 ∨ many ≥ (p.length : Int) - k
      · rw [if_pos (by omega), if_pos (by omega)]; simp
      · rw [if_neg (by omega), if_neg (by omega)]
        have hk : (k + many).toNat < p.length := by omega
        have e1 : (k - ((0 : Nat) : Int) + many).toNat = (k + many).toNat := by omega
        rw [e1]
        simp only [List.getElem?_eq_getElem hk,Option.getD_some]
        have := hge _ (List.getElem_mem hk)
        refine ⟨?_, by simp⟩
        symm
        rw [decide_eq_true_eq]
        omega
theorem holdsI_iff {l : List Nd} {a b : Int} : holdsI l a b = true ↔ 0 ≤ a ∧ b < l.length ∧ a ≤ b ∧ b < a + szI l a.toNat := by
  simp only [holdsI,Bool.and_eq_true,hasI_iff,decide_eq_true_eq]
  constructor
  · rintro ⟨h1, h2, h3, h4⟩; omega
  · rintro ⟨h1, h2, h3, h4⟩; omega
theorem parD_spec (l : List Nd) (b : Nat) : ∀ k, (parD l b k = -1 ∧ ∀ i : Nat, i < k → holdsI l i b = false) ∨ ∃ q : Nat, parD l b k = q ∧ q < k ∧ holdsI l q b = true ∧ ∀ i : Nat, q < i → i < k → holdsI l i b = false
  | 0 => .inl ⟨rfl, fun i h => by omega⟩
  | k + 1 => by
    rw [parD]
    cases hk : holdsI l k b
    · simp only [Bool.false_eq_true,↓reduceIte]
      rcases parD_spec l b k with ⟨h1, h2⟩ | ⟨q, h1, h2, h3, h4⟩
      · refine .inl ⟨h1, fun i hi => ?_⟩
        by_cases e : i = k
        · rw [e]; exact hk
        · exact h2 i (by omega)
      · refine .inr ⟨q, h1, by omega, h3, fun i hi hk' => ?_⟩
        by_cases e : i = k
        · rw [e]; exact hk
        · exact h4 i hi (by omega)
    · simp only [↓reduceIte]
      exact .inr ⟨k, rfl, by omega, hk, fun i hi hk' => by omega⟩
theorem nest {l : List Nd} (hb : isB l = true) {x q : Nat} (hx : x < l.length) (h1 : x ≤ q) (h2 : (q : Int) < x + szI l x) (hq : q < l.length) : (q : Int) + szI l q ≤ x + szI l x := by
  by_cases e : x = q
  · subst e; omega
  · have hrows : rowsB l 0 l.length = true := by simp only [isB,Bool.and_eq_true] at hb; exact hb.2
    obtain ⟨z1, z2⟩ := szI_bound hb hx
    obtain ⟨z3, _⟩ := rowsB_ends (Nat.le_refl _) hrows (Nat.zero_le x) hx
    have hin := rowsB_inner l (l.length + 1) 0 l.length (by omega) (Nat.le_refl _) hrows x (by omega) hx hx
    rw [← szI_eq hx] at hin
    have := (rowsB_ends (e := x + (szI l x).toNat) (by omega) hin (k := q) (by omega) (by omega)).1
    omega
theorem ups_le (l : List Nd) : ∀ (f : Nat) (p x : Int), x ∈ ups l f p → 0 ≤ x ∧ x ≤ p
  | 0, _, _, h => by simp [ups] at h
  | f + 1, p, x, h => by
    rw [ups] at h
    split at h
    · rcases List.mem_cons.1 h with rfl | h
      · omega
      · have := ups_le l f _ x h
        have := parR_range l p.toNat
        omega
    · simp at h
theorem ups_nodup (l : List Nd) : ∀ (f : Nat) (p : Int), (ups l f p).Nodup
  | 0, _ => by simp [ups]
  | f + 1, p => by
    rw [ups]
    split
    · refine List.nodup_cons.2 ⟨fun h => ?_, ups_nodup l f _⟩
      have := ups_le l f _ _ h
      have := parR_range l p.toNat
      omega
    · simp
theorem ups_mem {l : List Nd} (hb : isB l = true) : ∀ (f : Nat) (p : Int), p < l.length → p < f → ∀ x : Int, x ∈ ups l f p ↔ holdsI l x p = true
  | 0, p, hp, hf, x => by
    simp only [ups,List.not_mem_nil,false_iff]
    rw [holdsI_iff]; omega
  | f + 1, p, hp, hf, x => by
    rw [ups]
    split
    · rename_i h0
      obtain ⟨q, rfl⟩ : ∃ q : Nat, p = q := ⟨p.toNat, by omega⟩
      have hql : q < l.length := by omega
      have hpr := parR_range l q
      simp only [Int.toNat_natCast]
      rw [List.mem_cons, ups_mem hb f (parR l q) (by omega) (by omega) x]
      have hz := szI_bound hb hql
      constructor
      · rintro (rfl | h)
        · rw [holdsI_iff]; simp; omega
        · rw [holdsI_iff] at h
          obtain ⟨h1, h2, h3, h4⟩ := h
          obtain ⟨y, rfl⟩ : ∃ y : Nat, x = y := ⟨x.toNat, by omega⟩
          rcases parD_spec l q q with ⟨g1, _⟩ | ⟨r, g1, g2, g3, _⟩
          · rw [parR, g1] at h3; omega
          · rw [parR, g1] at h2 h3 h4
            simp only [Int.toNat_natCast] at h4
            rw [holdsI_iff] at g3 ⊢
            simp only [Int.toNat_natCast] at g3 ⊢
            have := nest hb (x := y) (q := r) (by omega) (by omega) h4 (by omega)
            omega
      · intro h
        rw [holdsI_iff] at h
        obtain ⟨h1, h2, h3, h4⟩ := h
        obtain ⟨y, rfl⟩ : ∃ y : Nat, x = y := ⟨x.toNat, by omega⟩
        simp only [Int.toNat_natCast] at h4
        by_cases e : y = q
        · left; rw [e]
        · right
          have hyq : holdsI l y q = true := by rw [holdsI_iff]; simp only [Int.toNat_natCast]; omega
          rcases parD_spec l q q with ⟨_, g2⟩ | ⟨r, g1, g2, g3, g4⟩
          · rw [g2 y (by omega)] at hyq; cases hyq
          · have hyr : y ≤ r := by
              by_cases hh : y ≤ r
              · exact hh
              · rw [g4 y (by omega) (by omega)] at hyq; cases hyq
            rw [parR, g1, holdsI_iff]
            simp only [Int.toNat_natCast]
            omega
    · rename_i h0
      simp only [List.not_mem_nil,false_iff]
      rw [holdsI_iff]; omega
theorem bump_get_at (m : Int) (p i : Nat) (out : List Nd) : (bump m p out)[i]? = if i = p then (out[i]?).map (fun x => { x with size := x.size + m }) else out[i]? := by
  by_cases e : i = p
  · subst e
    rw [if_pos rfl, bump]
    cases h : out[i]? with
    | none => simp [h]
    | some x =>
      have := (List.getElem?_eq_some_iff.1 h).1
      simp [this]
  · rw [if_neg e, bump_get e]
theorem bumps_get (m : Int) : ∀ (ps : List Int), (∀ p ∈ ps, 0 ≤ p) → ps.Nodup → ∀ (out : List Nd) (i : Nat),
    (bumps m ps out)[i]? = if (i : Int) ∈ ps then (out[i]?).map (fun x => { x with size := x.size + m }) else out[i]?
  | [], _, _, out, i => by simp [bumps]
  | p :: ps, h0, hn, out, i => by
    obtain ⟨hn1, hn2⟩ := List.nodup_cons.1 hn
    have hp := h0 p (by simp)
    rw [bumps, bumps_get m ps (fun q hq => h0 q (by simp [hq])) hn2, bump_get_at]
    by_cases e : (i : Int) = p
    · have e2 : i = p.toNat := by omega
      rw [if_neg (by rw [e]; exact hn1), if_pos e2, if_pos (by simp [e])]
    · have e2 : i ≠ p.toNat := by omega
      rw [if_neg e2]
      by_cases h2 : (i : Int) ∈ ps
      · rw [if_pos h2, if_pos (by simp [h2])]
      · rw [if_neg h2, if_neg (by simp [h2, e])]
def grewL (l : List Nd) (into more : Int) (n : Nat) : List Nd :=
  (l.take n).mapIdx fun i x => if (i : Int) = into ∨ holdsI l i into = true then { x with size := x.size + more } else x
theorem grewL_succ {l : List Nd} {into more : Int} {n : Nat} (h : n < l.length) :
    grewL l into more (n + 1) = grewL l into more n ++ [if (n : Int) = into ∨ holdsI l n into = true then { l[n] with size := l[n].size + more } else l[n]] := by
  rw [grewL, List.take_succ_eq_append_getElem h, List.mapIdx_append]
  have : (l.take n).length = n := by simp; omega
  simp only [grewL,List.mapIdx_cons,List.mapIdx_nil,this,Nat.zero_add]
theorem grewL_len {l : List Nd} {into more : Int} {n : Nat} : (grewL l into more n).length = (l.take n).length := by rw [grewL, List.length_mapIdx]
theorem app_right {α : Type} {A R : List α} {n i : Nat} (h : A.length = n) (hi : n ≤ i) : (A ++ R)[i]? = R[i - n]? := by
  rw [List.getElem?_append_right (by omega), h]
theorem swapL_eq {l : List Nd} (hb : isB l = true) {x : Ed} {to : Int} (h1 : x.into < x.pos) (h2 : -1 ≤ x.into) (h3 : x.pos ≤ l.length) :
    swapL l x to = grewL l x.into ((x.sub.length : Int) - (to - x.pos)) x.pos.toNat ++ x.sub ++ l.drop to.toNat := by
  refine List.ext_getElem? fun i => ?_
  rw [swapL, bumps_get _ _ (fun p hp => (ups_le l _ _ p hp).1) (ups_nodup l _ _)]
  have hm := ups_mem hb (l.length + 1) x.into (by omega) (by omega) i
  by_cases hi : i < x.pos.toNat
  · have hil : i < l.length := by omega
    rw [List.append_assoc, List.append_assoc, List.getElem?_append_left (by simp; omega), List.getElem?_append_left (by rw [grewL_len]; simp; omega), grewL, List.getElem?_mapIdx]
    have ht : (l.take x.pos.toNat)[i]? = some l[i] := by rw [List.getElem?_take, if_pos hi, List.getElem?_eq_getElem hil]
    rw [ht]
    simp only [Option.map_some]
    have hz := szI_bound hb hil
    have hiff : ((i : Int) = x.into ∨ holdsI l i x.into = true) ↔ holdsI l i x.into = true := by
      refine ⟨fun h => h.elim (fun e => ?_) id, .inr⟩
      rw [← e, holdsI_iff]; simp; omega
    by_cases hh : holdsI l i x.into = true
    · rw [if_pos (hm.2 hh), if_pos (.inr hh)]
    · rw [if_neg (fun h => hh (hm.1 h)), if_neg (fun h => hh (hiff.1 h))]
  · rw [if_neg (fun h => by have := ups_le l _ _ _ h; omega)]
    have e1 : (l.take x.pos.toNat).length = x.pos.toNat := by simp; omega
    have e2 : (grewL l x.into ((x.sub.length : Int) - (to - x.pos)) x.pos.toNat).length = x.pos.toNat := by rw [grewL_len, e1]
    rw [List.append_assoc, List.append_assoc, app_right e1 (by omega), app_right e2 (by omega)]
end Go.Vc
namespace Go.Vc
open Go.Proofs
section
variable {P : Program} {n : Nat} {st : St} {Q : St → Prop} {k : List It}
theorem Runs.freezes {s : Nat → V} {σ : Store} {todo : List It} (l ds : List Nat) (id off len : Nat) {ob : Ob} {σ' : Store} (h : SubStore σ' σ) (ho : σ id = some ob) (hid : σ' id = none)
    (hs : ∀ d ∈ ds, s d = .own id off len) (hl : off + len ≤ ob.rows.length)
    (hr : Runs P n todo ⟨fun i => if ds.contains i then .sl ob.sz ((ob.rows.drop off).take len) else keepS l s i, σ'⟩ Q) : Runs P n todo ⟨s, σ⟩ Q := by
  refine Runs.weaken ⟨h, fun i => ?_⟩ hr
  show Wk σ σ' (s i) _
  by_cases hi : ds.contains i = true
  · simp only [if_pos hi]
    rw [hs i (by simpa using hi)]
    exact Wk.own h ho hid hl
  · simp only [if_neg hi]
    unfold keepS
    split
    · exact Wk.refl h _
    · exact Wk.undef _
end
set_option maxRecDepth 100000 in
theorem own8_o (l : List Nd) (hl : Sml l) (σ : Store) : Contract Try.prog 27 [encNs l] σ fun r σ' => SubStore σ σ' ∧ OutV σ σ' 42 20 r (l.map encN) := by
  refine Contract.of_runs Try.func27 e27 k27 (by simp [c27]) ?_
  refine Runs.mix 3 ?_
  (refine Runs.of_step Orc.nothing 300 ?_; simp -implicitDefEqProofs only [BB,seval,← decide_not,okind,vpre,vpure,intBin,intPre,strBin,strPre,popTo,argSlots,fldV,fldAV,subCells,idxVV,idxAAV,idxSV,sliceV,sliceSV,boundV,szIs,storeOp,storeS,setRowV,eff,extV,buildV,splice,eqSV,fitsL,eqCells,eqCell,minmaxV,capV,binBV,nilCheckV,bytesV,V.cells,V.stays,Orc.nothing,c27])
  refine Runs.call rfl rfl rfl (own_o l hl _) ?_
  rintro r σ1 ⟨hsub, hout⟩
  (refine Runs.of_step Orc.nothing 300 ?_; simp -implicitDefEqProofs only [BB,seval,← decide_not,okind,vpre,vpure,intBin,intPre,strBin,strPre,popTo,argSlots,fldV,fldAV,subCells,idxVV,idxAAV,idxSV,sliceV,sliceSV,boundV,szIs,storeOp,storeS,setRowV,eff,extV,buildV,splice,eqSV,fitsL,eqCells,eqCell,minmaxV,capV,binBV,nilCheckV,bytesV,V.cells,V.stays,Orc.nothing])
  exact ⟨_, _, SubStore.refl _, Wk.refl (SubStore.refl _) _, hsub, hout⟩
def ref1R (l : List Nd) (x : Ed) (to : Int) : List Nd := grewL l x.into ((x.sub.length : Int) - (to - x.pos)) x.pos.toNat ++ x.sub ++ l.drop to.toNat
def refDoR (l : List Nd) (x : Ed) : List Nd × Bool :=
  if isB l = false then ([], false) else
  if x.kind = 2 then (if blockR l x.pos = false ∨ x.into ≠ 0 ∨ x.many ≠ 0 ∨ 0 < x.sub.length then ([], false) else (restyle l x.pos.toNat x.st, isB (restyle l x.pos.toNat x.st)))
  else if x.kind ≠ 1 ∨ endR l x.into x.pos x.many < 0 ∨ isB x.sub = false ∨ x.st ≠ Sty.zero then ([], false)
  else (ref1R l x (endR l x.into x.pos x.many), isB (ref1R l x (endR l x.into x.pos x.many)))
set_option maxRecDepth 100000 in
theorem rdo_c (l : List Nd) (x : Ed) (hl : Hlf l) (hx : Hlf x.sub) : PFun Try.prog 9 [encNs l, encE x] (.tup [encNs (refDoR l x).1, .bool (refDoR l x).2]) := fun σ => by
  have hl1 := hl.1
  refine Contract.of_runs Try.func9 e9 k9 (by simp [c9]) ?_
  refine Runs.mix 11 ?_
  (refine Runs.of_step Orc.nothing 300 ?_; simp -implicitDefEqProofs only [BB,seval,← decide_not,okind,vpre,vpure,intBin,intPre,strBin,strPre,popTo,argSlots,fldV,fldAV,subCells,idxVV,idxAAV,idxSV,sliceV,sliceSV,boundV,szIs,storeOp,storeS,setRowV,eff,extV,buildV,splice,eqSV,fitsL,eqCells,eqCell,minmaxV,capV,binBV,nilCheckV,bytesV,V.cells,V.stays,Orc.nothing,c9,encE,Ed.cells,encNs_cells,encNs_stays])
  refine effR_new fun id3 σ1 s1 a1 f1 => ?_
  simp -implicitDefEqProofs only [BB,seval,← decide_not,okind,vpre,vpure,intBin,intPre,strBin,strPre,popTo,argSlots,fldV,fldAV,subCells,idxVV,idxAAV,idxSV,sliceV,sliceSV,boundV,szIs,storeOp,storeS,setRowV,eff,extV,buildV,splice,eqSV,fitsL,eqCells,eqCell,minmaxV,capV,binBV,nilCheckV,bytesV,V.cells,V.stays,a1,encNs_cells,encNs_stays]
  have hnone : refDoR l x = ([], false) → RetV (.tup [.nils, .bool false]) σ1 fun r σ' => r = .tup [encNs (refDoR l x).1, .bool (refDoR l x).2] ∧ σ' = σ := fun h => by
    rw [h]
    exact ⟨_, σ, s1, Wk.tup (by simp only [WkL]; exact ⟨Wk.nils 20, Wk.refl s1 _, trivial⟩), rfl, rfl⟩
  refine Runs.pcall rfl rfl rfl (is_c l hl.sml.fine _) ?_
  cases hb : isB l
  · (refine Runs.of_step Orc.nothing 300 ?_; simp -implicitDefEqProofs only [BB,seval,← decide_not,okind,vpre,vpure,intBin,intPre,strBin,strPre,popTo,argSlots,fldV,fldAV,subCells,idxVV,idxAAV,idxSV,sliceV,sliceSV,boundV,szIs,storeOp,storeS,setRowV,eff,extV,buildV,splice,eqSV,fitsL,eqCells,eqCell,minmaxV,capV,binBV,nilCheckV,bytesV,V.cells,V.stays,Orc.nothing,a1,encNs_cells,encNs_stays])
    exact hnone (by rw [refDoR, if_pos hb])
  · (refine Runs.of_step Orc.nothing 300 ?_; simp -implicitDefEqProofs only [BB,seval,← decide_not,okind,vpre,vpure,intBin,intPre,strBin,strPre,popTo,argSlots,fldV,fldAV,subCells,idxVV,idxAAV,idxSV,sliceV,sliceSV,boundV,szIs,storeOp,storeS,setRowV,eff,extV,buildV,splice,eqSV,fitsL,eqCells,eqCell,minmaxV,capV,binBV,nilCheckV,bytesV,V.cells,V.stays,Orc.nothing,a1,encNs_cells,encNs_stays])
    refine And.intro (fun hk => ?_) (fun hk => ?_)
    · have hre : refDoR l x = if blockR l x.pos = false ∨ x.into ≠ 0 ∨ x.many ≠ 0 ∨ 0 < x.sub.length then ([], false) else (restyle l x.pos.toNat x.st, isB (restyle l x.pos.toNat x.st)) := by
        rw [refDoR, if_neg (by rw [hb]; simp), if_pos hk]
      refine Runs.pcall rfl rfl rfl (block8_c l x.pos _) ?_
      cases hbk : blockR l x.pos
      · (refine Runs.of_step Orc.nothing 300 ?_; simp -implicitDefEqProofs only [BB,seval,← decide_not,okind,vpre,vpure,intBin,intPre,strBin,strPre,popTo,argSlots,fldV,fldAV,subCells,idxVV,idxAAV,idxSV,sliceV,sliceSV,boundV,szIs,storeOp,storeS,setRowV,eff,extV,buildV,splice,eqSV,fitsL,eqCells,eqCell,minmaxV,capV,binBV,nilCheckV,bytesV,V.cells,V.stays,Orc.nothing,hbk,a1,encNs_cells,encNs_stays])
        exact hnone (by rw [hre, if_pos (.inl hbk)])
      · (refine Runs.of_step Orc.nothing 300 ?_; simp -implicitDefEqProofs only [BB,seval,← decide_not,okind,vpre,vpure,intBin,intPre,strBin,strPre,popTo,argSlots,fldV,fldAV,subCells,idxVV,idxAAV,idxSV,sliceV,sliceSV,boundV,szIs,storeOp,storeS,setRowV,eff,extV,buildV,splice,eqSV,fitsL,eqCells,eqCell,minmaxV,capV,binBV,nilCheckV,bytesV,V.cells,V.stays,Orc.nothing,hbk,a1,encNs_cells,encNs_stays,lenV_encNs])
        obtain ⟨hp0, hlt, _⟩ := blockR_lt hbk
        refine And.intro (fun c1 => And.intro (fun c2 => And.intro (fun c3 => ?_) (fun c3 => ?_)) (fun c2 => ?_)) (fun c1 => ?_)
        · exact hnone (by rw [hre, if_pos (.inr (.inr (.inr (by omega))))])
        · have hre2 : refDoR l x = (restyle l x.pos.toNat x.st, isB (restyle l x.pos.toNat x.st)) := by
            rw [hre, if_neg]
            rintro (h | h | h | h)
            · rw [hbk] at h; cases h
            · omega
            · omega
            · omega
          rw [hre2]
          refine Runs.call rfl rfl rfl (own8_o l hl.sml _) ?_
          rintro r σ2 ⟨hsub, hout⟩
          simp only at hsub hout
          have a1' := hsub _ _ a1
          rcases hout with ⟨rfl, hr0⟩ | ⟨id, rfl, ho, hk'⟩
          · have : l = [] := by cases l with | nil => rfl | cons a b => simp at hr0
            subst this
            simp at hlt
          · rw [List.length_map]
            have hrow : (l.map encN)[x.pos.toNat]? = some (.agg (Nd.cells l[x.pos.toNat])) := by simp [hlt, encN]
            have hc : 0 ≤ x.pos ∧ x.pos < (l.length : Int) := by omega
            have hid1 : id3 ≠ id := ne_new a1 hk'
            have hre3 : (restyle l x.pos.toNat x.st).map encN = (l.map encN).set x.pos.toNat (encN { l[x.pos.toNat] with st := x.st }) := by
              rw [restyle]
              simp only [List.getElem?_eq_getElem hlt]
              rw [List.map_set]
            generalize l[x.pos.toNat] = y at *
            simp only [encN,Nd.cells] at hre3
            (refine Runs.of_step Orc.nothing 300 ?_; simp -implicitDefEqProofs only [BB,seval,← decide_not,okind,vpre,vpure,intBin,intPre,strBin,strPre,popTo,argSlots,fldV,fldAV,subCells,idxVV,idxAAV,idxSV,sliceV,sliceSV,boundV,szIs,storeOp,storeS,setRowV,eff,extV,buildV,splice,eqSV,fitsL,eqCells,eqCell,minmaxV,capV,binBV,nilCheckV,bytesV,V.cells,V.stays,Orc.nothing,a1',ho,hc,hrow,Nd.cells,encNs_cells,encNs_stays])
            rw [← hre3]
            have hn : l.length = ((restyle l x.pos.toNat x.st).map encN).length := by rw [List.length_map, restyle_length]
            have hs3 : SubStore σ (upd σ2 id ⟨42, 20, (restyle l x.pos.toNat x.st).map encN⟩) := (s1.trans hsub).updK (s1.none hk')
            have hov := OutV.new (K := σ) (e := 42) (sz := 20) hn (upd_same (σ := σ2) (id := id)) (s1.none hk')
            have hv := hov.wk (SubStore.refl σ) hs3
            have hv0 := hov.wk (nost_sub σ) (nost_sub _)
            refine Runs.pcall rfl rfl rfl (PFun.borrow (args' := [encNs (restyle l x.pos.toNat x.st)]) (by simp only [List.map_cons,List.map_nil,List.append_nil,WkL]; exact ⟨hv0, trivial⟩) (is_c _ (restyle_sml hl.sml).fine) rfl) ?_
            (refine Runs.of_step Orc.nothing 300 ?_; simp -implicitDefEqProofs only [BB,seval,← decide_not,okind,vpre,vpure,intBin,intPre,strBin,strPre,popTo,argSlots,fldV,fldAV,subCells,idxVV,idxAAV,idxSV,sliceV,sliceSV,boundV,szIs,storeOp,storeS,setRowV,eff,extV,buildV,splice,eqSV,fitsL,eqCells,eqCell,minmaxV,capV,binBV,nilCheckV,bytesV,V.cells,V.stays,Orc.nothing])
            exact ⟨_, σ, hs3, Wk.tup (by simp only [WkL]; exact ⟨hv, Wk.refl hs3 _, trivial⟩), rfl, rfl⟩
        · exact hnone (by rw [hre, if_pos (.inr (.inr (.inl (by omega))))])
        · exact hnone (by rw [hre, if_pos (.inr (.inl (by omega)))])
    · have hre : refDoR l x = if x.kind ≠ 1 ∨ endR l x.into x.pos x.many < 0 ∨ isB x.sub = false ∨ x.st ≠ Sty.zero then ([], false)
          else (ref1R l x (endR l x.into x.pos x.many), isB (ref1R l x (endR l x.into x.pos x.many))) := by
        rw [refDoR, if_neg (by rw [hb]; simp), if_neg hk]
      refine And.intro (fun hk1 => ?_) (fun hk1 => hnone (by rw [hre, if_pos (.inl hk1)]))
      refine Runs.pcall rfl rfl rfl (end_c l (by omega) hb x _) ?_
      by_cases h1 : endR l x.into x.pos x.many < 0
      · (refine Runs.of_step Orc.nothing 300 ?_; simp -implicitDefEqProofs only [BB,seval,← decide_not,okind,vpre,vpure,intBin,intPre,strBin,strPre,popTo,argSlots,fldV,fldAV,subCells,idxVV,idxAAV,idxSV,sliceV,sliceSV,boundV,szIs,storeOp,storeS,setRowV,eff,extV,buildV,splice,eqSV,fitsL,eqCells,eqCell,minmaxV,capV,binBV,nilCheckV,bytesV,V.cells,V.stays,Orc.nothing,h1,a1,encNs_cells,encNs_stays])
        exact hnone (by rw [hre, if_pos (.inr (.inl h1))])
      have hgo := gone_end hb x.into x.pos x.many
      have hok : (goesR l x.into x.pos x.many).2.2 = true := by rw [hgo.1, decide_eq_true_eq]; omega
      have hto := hgo.2 hok
      rcases hg : goesR l x.into x.pos x.many with ⟨fr, to, ok⟩
      rw [hg] at hok hto
      simp only at hok hto
      subst hok
      obtain ⟨rfl, g1, g2, g3, g4, g5, g6, _⟩ := goneR_facts hb hg
      rw [← hto] at h1 hre ⊢
      (refine Runs.of_step Orc.nothing 300 ?_; simp -implicitDefEqProofs only [BB,seval,← decide_not,okind,vpre,vpure,intBin,intPre,strBin,strPre,popTo,argSlots,fldV,fldAV,subCells,idxVV,idxAAV,idxSV,sliceV,sliceSV,boundV,szIs,storeOp,storeS,setRowV,eff,extV,buildV,splice,eqSV,fitsL,eqCells,eqCell,minmaxV,capV,binBV,nilCheckV,bytesV,V.cells,V.stays,Orc.nothing,h1,a1,encNs_cells,encNs_stays])
      refine Runs.pcall rfl rfl rfl (is_c x.sub hx.sml.fine _) ?_
      cases hbs : isB x.sub
      · (refine Runs.of_step Orc.nothing 300 ?_; simp -implicitDefEqProofs only [BB,seval,← decide_not,okind,vpre,vpure,intBin,intPre,strBin,strPre,popTo,argSlots,fldV,fldAV,subCells,idxVV,idxAAV,idxSV,sliceV,sliceSV,boundV,szIs,storeOp,storeS,setRowV,eff,extV,buildV,splice,eqSV,fitsL,eqCells,eqCell,minmaxV,capV,binBV,nilCheckV,bytesV,V.cells,V.stays,Orc.nothing,a1,encNs_cells,encNs_stays])
        exact hnone (by rw [hre, if_pos (.inr (.inr (.inl hbs)))])
      (refine Runs.of_step Orc.nothing 300 ?_; simp -implicitDefEqProofs only [BB,seval,← decide_not,okind,vpre,vpure,intBin,intPre,strBin,strPre,popTo,argSlots,fldV,fldAV,subCells,idxVV,idxAAV,idxSV,sliceV,sliceSV,boundV,szIs,storeOp,storeS,setRowV,eff,extV,buildV,splice,eqSV,fitsL,eqCells,eqCell,minmaxV,capV,binBV,nilCheckV,bytesV,V.cells,V.stays,Orc.nothing,a1,encNs_cells,encNs_stays,isZero_eq])
      refine And.intro (fun hz => hnone (by rw [hre, if_pos (.inr (.inr (.inr hz)))])) (fun hz => ?_)
      have hre2 : refDoR l x = (ref1R l x to, isB (ref1R l x to)) := by
        rw [hre, if_neg]
        rintro (h | h | h | h)
        · exact h hk1
        · exact h1 h
        · rw [hbs] at h; cases h
        · exact hz h
      rw [hre2]
      have hx1 := hx.1
      refine Runs.loop (fun m st => ∃ i : Nat, (i : Int) ≤ x.pos ∧ m = x.pos.toNat - i ∧ SubStore σ1 st.σ ∧ OutV σ1 st.σ 42 20 (st.s 8) ((grewL l x.into ((x.sub.length : Int) - (to - x.pos)) i).map encN) ∧
        st.s 0 = encNs l ∧ st.s 3 = .ptr id3 0 0 ∧ st.s 7 = vI to ∧ st.s 9 = vI i) x.pos.toNat ?_ ?_
      · exact ⟨0, by omega, by omega, SubStore.refl _, .inl ⟨rfl, rfl⟩, rfl, rfl, rfl, rfl⟩
      · rintro m ⟨s, σ'⟩ ⟨i, hi, rfl, hsub, hout, h0, h3, h7, h9⟩
        simp only at hsub hout h0 h3 h7 h9
        have a1' := hsub _ _ a1
        refine Runs.mix 11 ?_
        (refine Runs.of_step Orc.nothing 300 ?_; simp -implicitDefEqProofs only [BB,seval,← decide_not,okind,vpre,vpure,intBin,intPre,strBin,strPre,popTo,argSlots,fldV,fldAV,subCells,idxVV,idxAAV,idxSV,sliceV,sliceSV,boundV,szIs,storeOp,storeS,setRowV,eff,extV,buildV,splice,eqSV,fitsL,eqCells,eqCell,minmaxV,capV,binBV,nilCheckV,bytesV,V.cells,V.stays,Orc.nothing,h0,h3,h7,h9,a1',encNs_cells,encNs_stays])
        refine And.intro (fun hlt => ?_) (fun hge => ?_)
        · have hil : i < l.length := by omega
          simp -implicitDefEqProofs only [BB,seval,← decide_not,okind,vpre,vpure,intBin,intPre,strBin,strPre,popTo,argSlots,fldV,fldAV,subCells,idxVV,idxAAV,idxSV,sliceV,sliceSV,boundV,szIs,storeOp,storeS,setRowV,eff,extV,buildV,splice,eqSV,fitsL,eqCells,eqCell,minmaxV,capV,binBV,nilCheckV,bytesV,V.cells,V.stays,idxAV_encNs hil,Nd.cells,h0,h3,h7,h9,a1',encNs_cells,encNs_stays]
          refine effR_new fun id10 σ2 s2 a2 f2 => ?_
          have hx := l[i].words.length
          have hsz := szI_bound hb hil
          have hse := szI_eq hil
          have hgs := grewL_succ (into := x.into) (more := (x.sub.length : Int) - (to - x.pos)) hil
          have n10 := ne_new a1' f2
          have a1'' := s2 _ _ a1'
          have hss : SubStore σ1 (upd σ2 id10 ⟨42, 20, [encN l[i]]⟩) := (hsub.trans s2).updK (hsub.none f2)
          have hlen : (grewL l x.into ((x.sub.length : Int) - (to - x.pos)) i).length ≤ 5000 := by rw [grewL_len]; simp; omega
          have eN : (grewL l x.into ((x.sub.length : Int) - (to - x.pos)) i).length = i := by rw [grewL_len]; simp; omega
          generalize hG : grewL l x.into ((x.sub.length : Int) - (to - x.pos)) i = G at *
          have e1 : l[i].size + (x.sub.length : Int) - (to - x.pos) = l[i].size + ((x.sub.length : Int) - (to - x.pos)) := by omega
          have hb2 : (G.length + 1) * 177 ≤ 140737488355328 := by omega
          by_cases c1 : (i : Int) = x.into
          · simp -implicitDefEqProofs only [BB,seval,← decide_not,okind,vpre,vpure,intBin,intPre,strBin,strPre,popTo,argSlots,fldV,fldAV,subCells,idxVV,idxAAV,idxSV,sliceV,sliceSV,boundV,szIs,storeOp,storeS,setRowV,eff,extV,buildV,splice,eqSV,fitsL,eqCells,eqCell,minmaxV,capV,binBV,nilCheckV,bytesV,c1,h0,h3,h7,h9,a2,a1'',upd_ne n10,Nd.cells,encNs_cells,encNs_stays,encI_cells,encI_stays,lenV_encNs,V.cells_agg,V.cells_int,V.cells_nils,V.cells_own,V.cells_sl,V.cells_str,V.cells_bool,V.cells_fn,V.cells_ptr,V.cells_rp,V.stays_agg,V.stays_int,V.stays_nils,V.stays_own,V.stays_sl,V.stays_str,V.stays_bool,V.stays_fn,V.stays_ptr,V.stays_rp]
            refine ⟨inR_i64 (by omega) (by omega), inR_i64 (by omega) (by omega), inR_i64 (by omega) (by omega), ?_⟩
            refine effR_new fun id11 σ3 s3 a3 f3 => ?_
            have hs3 := ((hsub.trans s2).updK (hsub.none f2)).trans s3
            obtain ⟨idA, hd, hdel⟩ := hout.dst ((s2.updK f2).trans s3)
            simp -implicitDefEqProofs only [BB,seval,← decide_not,okind,vpre,vpure,intBin,intPre,strBin,strPre,popTo,argSlots,fldV,fldAV,subCells,idxVV,idxAAV,idxSV,sliceV,sliceSV,boundV,szIs,storeOp,storeS,setRowV,eff,extV,buildV,splice,eqSV,fitsL,eqCells,eqCell,minmaxV,capV,binBV,nilCheckV,bytesV,V.cells,V.stays,hd,srcOne a3,List.length_map,hb2,h0,h3,h7,h9]
            refine effR_put fun id12 σ4 s4 a4 f4 => ?_
            simp -implicitDefEqProofs only [BB,seval,← decide_not,okind,vpre,vpure,intBin,intPre,strBin,strPre,popTo,argSlots,fldV,fldAV,subCells,idxVV,idxAAV,idxSV,sliceV,sliceSV,boundV,szIs,storeOp,storeS,setRowV,eff,extV,buildV,splice,eqSV,fitsL,eqCells,eqCell,minmaxV,capV,binBV,nilCheckV,bytesV,V.cells,V.stays,h0,h3,h7,h9]
            refine ⟨inR_i64 (by omega) (by omega), _, ?_, i + 1, by omega, rfl, (hdel σ1 (SubStore.refl _) σ3 hs3).trans s4, ?_, ?_⟩
            · omega
            · rw [hgs, if_pos (.inl c1)]
              exact OutV.new (by simp [eN]) (a4.trans (by simp [encN, Nd.cells, e1])) (hs3.none f4)
            · simp
          · simp -implicitDefEqProofs only [BB,seval,← decide_not,okind,vpre,vpure,intBin,intPre,strBin,strPre,popTo,argSlots,fldV,fldAV,subCells,idxVV,idxAAV,idxSV,sliceV,sliceSV,boundV,szIs,storeOp,storeS,setRowV,eff,extV,buildV,splice,eqSV,fitsL,eqCells,eqCell,minmaxV,capV,binBV,nilCheckV,bytesV,c1,h0,h3,h7,h9,a2,a1'',upd_ne n10,Nd.cells,encNs_cells,encNs_stays,encI_cells,encI_stays,lenV_encNs,V.cells_agg,V.cells_int,V.cells_nils,V.cells_own,V.cells_sl,V.cells_str,V.cells_bool,V.cells_fn,V.cells_ptr,V.cells_rp,V.stays_agg,V.stays_int,V.stays_nils,V.stays_own,V.stays_sl,V.stays_str,V.stays_bool,V.stays_fn,V.stays_ptr,V.stays_rp]
            refine Runs.pcall rfl rfl rfl (holds_c l (by omega) i x.into _) ?_
            cases hh : holdsI l i x.into
            · (refine Runs.of_step Orc.nothing 300 ?_; simp -implicitDefEqProofs only [BB,seval,← decide_not,okind,vpre,vpure,intBin,intPre,strBin,strPre,popTo,argSlots,fldV,fldAV,subCells,idxVV,idxAAV,idxSV,sliceV,sliceSV,boundV,szIs,storeOp,storeS,setRowV,eff,extV,buildV,splice,eqSV,fitsL,eqCells,eqCell,minmaxV,capV,binBV,nilCheckV,bytesV,Orc.nothing,h0,h3,h7,h9,a2,a1'',upd_ne n10,Nd.cells,encNs_cells,encNs_stays,encI_cells,encI_stays,lenV_encNs,V.cells_agg,V.cells_int,V.cells_nils,V.cells_own,V.cells_sl,V.cells_str,V.cells_bool,V.cells_fn,V.cells_ptr,V.cells_rp,V.stays_agg,V.stays_int,V.stays_nils,V.stays_own,V.stays_sl,V.stays_str,V.stays_bool,V.stays_fn,V.stays_ptr,V.stays_rp])
              refine effR_new fun id11 σ3 s3 a3 f3 => ?_
              have hs3 := ((hsub.trans s2).updK (hsub.none f2)).trans s3
              obtain ⟨idA, hd, hdel⟩ := hout.dst ((s2.updK f2).trans s3)
              simp -implicitDefEqProofs only [BB,seval,← decide_not,okind,vpre,vpure,intBin,intPre,strBin,strPre,popTo,argSlots,fldV,fldAV,subCells,idxVV,idxAAV,idxSV,sliceV,sliceSV,boundV,szIs,storeOp,storeS,setRowV,eff,extV,buildV,splice,eqSV,fitsL,eqCells,eqCell,minmaxV,capV,binBV,nilCheckV,bytesV,V.cells,V.stays,hd,srcOne a3,List.length_map,hb2,h0,h3,h7,h9]
              refine effR_put fun id12 σ4 s4 a4 f4 => ?_
              simp -implicitDefEqProofs only [BB,seval,← decide_not,okind,vpre,vpure,intBin,intPre,strBin,strPre,popTo,argSlots,fldV,fldAV,subCells,idxVV,idxAAV,idxSV,sliceV,sliceSV,boundV,szIs,storeOp,storeS,setRowV,eff,extV,buildV,splice,eqSV,fitsL,eqCells,eqCell,minmaxV,capV,binBV,nilCheckV,bytesV,V.cells,V.stays,h0,h3,h7,h9]
              refine ⟨inR_i64 (by omega) (by omega), _, ?_, i + 1, by omega, rfl, (hdel σ1 (SubStore.refl _) σ3 hs3).trans s4, ?_, ?_⟩
              · omega
              · rw [hgs, if_neg (by rw [hh]; simp [c1])]
                exact OutV.new (by simp [eN]) (a4.trans (by simp [encN, Nd.cells])) (hs3.none f4)
              · simp
            · (refine Runs.of_step Orc.nothing 300 ?_; simp -implicitDefEqProofs only [BB,seval,← decide_not,okind,vpre,vpure,intBin,intPre,strBin,strPre,popTo,argSlots,fldV,fldAV,subCells,idxVV,idxAAV,idxSV,sliceV,sliceSV,boundV,szIs,storeOp,storeS,setRowV,eff,extV,buildV,splice,eqSV,fitsL,eqCells,eqCell,minmaxV,capV,binBV,nilCheckV,bytesV,Orc.nothing,h0,h3,h7,h9,a2,a1'',upd_ne n10,Nd.cells,encNs_cells,encNs_stays,encI_cells,encI_stays,lenV_encNs,V.cells_agg,V.cells_int,V.cells_nils,V.cells_own,V.cells_sl,V.cells_str,V.cells_bool,V.cells_fn,V.cells_ptr,V.cells_rp,V.stays_agg,V.stays_int,V.stays_nils,V.stays_own,V.stays_sl,V.stays_str,V.stays_bool,V.stays_fn,V.stays_ptr,V.stays_rp])
              refine ⟨inR_i64 (by omega) (by omega), inR_i64 (by omega) (by omega), inR_i64 (by omega) (by omega), ?_⟩
              refine effR_new fun id11 σ3 s3 a3 f3 => ?_
              have hs3 := ((hsub.trans s2).updK (hsub.none f2)).trans s3
              obtain ⟨idA, hd, hdel⟩ := hout.dst ((s2.updK f2).trans s3)
              simp -implicitDefEqProofs only [BB,seval,← decide_not,okind,vpre,vpure,intBin,intPre,strBin,strPre,popTo,argSlots,fldV,fldAV,subCells,idxVV,idxAAV,idxSV,sliceV,sliceSV,boundV,szIs,storeOp,storeS,setRowV,eff,extV,buildV,splice,eqSV,fitsL,eqCells,eqCell,minmaxV,capV,binBV,nilCheckV,bytesV,V.cells,V.stays,hd,srcOne a3,List.length_map,hb2,h0,h3,h7,h9]
              refine effR_put fun id12 σ4 s4 a4 f4 => ?_
              simp -implicitDefEqProofs only [BB,seval,← decide_not,okind,vpre,vpure,intBin,intPre,strBin,strPre,popTo,argSlots,fldV,fldAV,subCells,idxVV,idxAAV,idxSV,sliceV,sliceSV,boundV,szIs,storeOp,storeS,setRowV,eff,extV,buildV,splice,eqSV,fitsL,eqCells,eqCell,minmaxV,capV,binBV,nilCheckV,bytesV,V.cells,V.stays,h0,h3,h7,h9]
              refine ⟨inR_i64 (by omega) (by omega), _, ?_, i + 1, by omega, rfl, (hdel σ1 (SubStore.refl _) σ3 hs3).trans s4, ?_, ?_⟩
              · omega
              · rw [hgs, if_pos (.inr hh)]
                exact OutV.new (by simp [eN]) (a4.trans (by simp [encN, Nd.cells, e1])) (hs3.none f4)
              · simp
        · have hie : i = x.pos.toNat := by omega
          subst hie
          have hR : ref1R l x to = grewL l x.into ((x.sub.length : Int) - (to - x.pos)) x.pos.toNat ++ x.sub ++ l.drop to.toNat := rfl
          have hlen : (grewL l x.into ((x.sub.length : Int) - (to - x.pos)) x.pos.toNat).length ≤ 5000 := by rw [grewL_len]; simp; omega
          have eG : (grewL l x.into ((x.sub.length : Int) - (to - x.pos)) x.pos.toNat).length = x.pos.toNat := by rw [grewL_len]; simp; omega
          have hRw : ∀ y ∈ ref1R l x to, y.words.length ≤ 1000000000 := by
            rw [ref1R, ← swapL_eq hb (by omega) g4 (by omega)]
            exact (swapL_sml hl hx g2 (by omega)).2
          generalize hG : grewL l x.into ((x.sub.length : Int) - (to - x.pos)) x.pos.toNat = G at *
          have hsrc : ∀ (σ : Store) (l : List Nd), srcRows σ 20 (encNs l) = some (l.map encN) := fun σ l => by simp [encNs, srcRows]
          have hsl := fun σ => sliceV_from (σ := σ) (l := l) (s := to) (by omega) g3
          have hb1 : (G.length + x.sub.length) * 177 ≤ 140737488355328 := by omega
          have hb2 : (G.length + x.sub.length + (l.drop to.toNat).length) * 177 ≤ 140737488355328 := by simp; omega
          obtain ⟨idA, hd, hdel⟩ := hout.dst (SubStore.refl _)
          simp -implicitDefEqProofs only [BB,seval,← decide_not,okind,vpre,vpure,intBin,intPre,strBin,strPre,popTo,argSlots,fldV,fldAV,subCells,idxVV,idxAAV,idxSV,sliceV,sliceSV,boundV,szIs,storeOp,storeS,setRowV,eff,extV,buildV,splice,eqSV,fitsL,eqCells,eqCell,minmaxV,capV,binBV,nilCheckV,bytesV,V.cells,V.stays,hd,hsrc,List.length_map,hb1,h0,h3,h7,h9]
          refine effD_put fun id4 σ4 s4 a4 f4 => ?_
          have hs4 := (hdel σ1 (SubStore.refl _) σ' hsub).trans s4
          have hn2 : G.length + x.sub.length = (G.map encN ++ x.sub.map encN).length := by simp
          obtain ⟨idB, hd2, hdel2⟩ := (OutV.new (K := σ1) (e := 42) (sz := 20) hn2 a4 (hsub.none f4)).dst (SubStore.refl _)
          simp -implicitDefEqProofs only [BB,seval,← decide_not,okind,vpre,vpure,intBin,intPre,strBin,strPre,popTo,argSlots,fldV,fldAV,subCells,idxVV,idxAAV,idxSV,sliceSV,boundV,szIs,storeOp,storeS,setRowV,eff,extV,buildV,splice,eqSV,fitsL,eqCells,eqCell,minmaxV,capV,binBV,nilCheckV,bytesV,V.cells,V.stays,hd2,hsrc,hsl,List.length_map,List.length_append,hb2,h0,h3,h7,h9]
          refine effD_put fun id5 σ5 s5 a5 f5 => ?_
          have hs5 := (hdel2 σ1 (SubStore.refl _) σ4 hs4).trans s5
          simp -implicitDefEqProofs only [BB,seval,← decide_not,okind,vpre,vpure,intBin,intPre,strBin,strPre,popTo,argSlots,fldV,fldAV,subCells,idxVV,idxAAV,idxSV,sliceV,sliceSV,boundV,szIs,storeOp,storeS,setRowV,eff,extV,buildV,splice,eqSV,fitsL,eqCells,eqCell,minmaxV,capV,binBV,nilCheckV,bytesV,V.cells,V.stays,h0,h3,h7,h9]
          have hrows : G.map encN ++ x.sub.map encN ++ (l.drop to.toNat).map encN = (ref1R l x to).map encN := by rw [hR]; simp
          have hRl : G.length + x.sub.length + (l.drop to.toNat).length = (ref1R l x to).length := by rw [hR]; simp only [List.length_append]
          have hsm : Sml (ref1R l x to) := ⟨by rw [← hRl]; simp; omega, hRw⟩
          rw [hrows] at a5
          refine Runs.freezes [] [8, 115] id5 0 (ref1R l x to).length (ob := ⟨42, 20, (ref1R l x to).map encN⟩) (σ' := σ1) hs5 a5 (hs4.none f5) ?_ (by simp) ?_
          · rw [← hRl]
            intro d hd'
            rcases List.mem_cons.1 hd' with rfl | hd'
            · rfl
            · rcases List.mem_cons.1 hd' with rfl | hd'
              · rfl
              · cases hd'
          · have hfold : List.take (ref1R l x to).length ((ref1R l x to).map encN) = (ref1R l x to).map encN := List.take_of_length_le (by simp)
            have hf2 : V.sl 20 ((ref1R l x to).map encN) = encNs (ref1R l x to) := rfl
            simp only [List.drop_zero,hfold,hf2]
            refine Runs.pcall rfl rfl rfl (own8_c (ref1R l x to) hsm _) ?_
            (refine Runs.of_step Orc.nothing 300 ?_; simp -implicitDefEqProofs only [BB,seval,← decide_not,okind,vpre,vpure,intBin,intPre,strBin,strPre,popTo,argSlots,fldV,fldAV,subCells,idxVV,idxAAV,idxSV,sliceV,sliceSV,boundV,szIs,storeOp,storeS,setRowV,eff,extV,buildV,splice,eqSV,fitsL,eqCells,eqCell,minmaxV,capV,binBV,nilCheckV,bytesV,V.cells,V.stays,Orc.nothing])
            refine Runs.pcall rfl rfl rfl (is_c (ref1R l x to) hsm.fine _) ?_
            (refine Runs.of_step Orc.nothing 300 ?_; simp -implicitDefEqProofs only [BB,seval,← decide_not,okind,vpre,vpure,intBin,intPre,strBin,strPre,popTo,argSlots,fldV,fldAV,subCells,idxVV,idxAAV,idxSV,sliceV,sliceSV,boundV,szIs,storeOp,storeS,setRowV,eff,extV,buildV,splice,eqSV,fitsL,eqCells,eqCell,minmaxV,capV,binBV,nilCheckV,bytesV,V.cells,V.stays,Orc.nothing])
            exact RetV.pure s1 rfl
end Go.Vc
namespace Go.Vc
open Go.Proofs
set_option maxRecDepth 100000 in
theorem rback_c (l out : List Nd) (x : Ed) (hl : Hlf l) (hx : Hlf x.sub) (hd : doR l x = some out) : PFun Try.prog 13 [encNs l, encE x] (encE (backR l x)) := fun σ => by
  have hl1 := hl.1
  have hx1 := hx.1
  obtain ⟨res, hres⟩ : ∃ v, v = encE (backR l x) := ⟨_, rfl⟩
  rw [← hres]
  obtain ⟨hb, hbo, hout, hk⟩ := doR_some hd
  refine Contract.of_runs Try.func13 e13 k13 (by simp [c13]) ?_
  refine Runs.mix 5 ?_
  (refine Runs.of_step Orc.nothing 300 ?_; simp -implicitDefEqProofs only [BB,seval,← decide_not,okind,vpre,vpure,intBin,intPre,strBin,strPre,popTo,argSlots,fldV,fldAV,subCells,idxVV,idxAAV,idxSV,sliceV,sliceSV,boundV,szIs,storeOp,storeS,setRowV,eff,extV,buildV,splice,eqSV,fitsL,eqCells,eqCell,minmaxV,capV,binBV,nilCheckV,bytesV,Orc.nothing,c13,encE,Ed.cells,encNs_cells,encNs_stays,V.cells_agg,V.cells_int,V.cells_nils,V.cells_own,V.cells_sl,V.cells_str,V.cells_bool,V.cells_fn,V.cells_ptr,V.cells_rp,V.stays_agg,V.stays_int,V.stays_nils,V.stays_own,V.stays_sl,V.stays_str,V.stays_bool,V.stays_fn,V.stays_ptr,V.stays_rp])
  refine effR_new fun id1 σ1 s1 a1 f1 => ?_
  simp -implicitDefEqProofs only [BB,seval,← decide_not,okind,vpre,vpure,intBin,intPre,strBin,strPre,popTo,argSlots,fldV,fldAV,subCells,idxVV,idxAAV,idxSV,sliceV,sliceSV,boundV,szIs,storeOp,storeS,setRowV,eff,extV,buildV,splice,eqSV,fitsL,eqCells,eqCell,minmaxV,capV,binBV,nilCheckV,bytesV,a1,encNs_cells,encNs_stays,V.cells_agg,V.cells_int,V.cells_nils,V.cells_own,V.cells_sl,V.cells_str,V.cells_bool,V.cells_fn,V.cells_ptr,V.cells_rp,V.stays_agg,V.stays_int,V.stays_nils,V.stays_own,V.stays_sl,V.stays_str,V.stays_bool,V.stays_fn,V.stays_ptr,V.stays_rp]
  refine effR_new fun id2 σ2 s2 a2 f2 => ?_
  have n12 := ne_new a1 f2
  have a10 := s2 _ _ a1
  have hs := s1.trans s2
  have g2 := s1.none f2
  simp -implicitDefEqProofs only [BB,seval,← decide_not,okind,vpre,vpure,intBin,intPre,strBin,strPre,popTo,argSlots,fldV,fldAV,subCells,idxVV,idxAAV,idxSV,sliceV,sliceSV,boundV,szIs,storeOp,storeS,setRowV,eff,extV,splice,eqSV,fitsL,eqCells,eqCell,minmaxV,capV,binBV,nilCheckV,bytesV,a10,a2,encNs_cells,encNs_stays,V.cells_agg,V.cells_int,V.cells_nils,V.cells_own,V.cells_sl,V.cells_str,V.cells_bool,V.cells_fn,V.cells_ptr,V.cells_rp,V.stays_agg,V.stays_int,V.stays_nils,V.stays_own,V.stays_sl,V.stays_str,V.stays_bool,V.stays_fn,V.stays_ptr,V.stays_rp]
  refine And.intro (fun hk2 => ?_) (fun hk2 => ?_)
  · rw [outR, if_neg (by omega)] at hout
    obtain ⟨hbl, h1, h2, h3, h4⟩ := styleR_some hout
    obtain ⟨hp0, hp, _⟩ := blockR_lt hbl
    have hxx := fun σ => idxAV_encNsI (σ := σ) hp0 hp
    have hst := stI_eq hp
    have hsb : ∀ (p : Int) (s : Sty), buildV [.int .i64 0, .int .i64 0, .int .i64 0, .int .i64 0, .nils, .int .i64 0, .int .i64 0, .int .i64 0, .int .i64 0, .int .i64 0, .int .i64 0, .int .i64 0, .int .i64 0, .int .i64 0, .int .i64 0, .int .i64 0, .int .i64 0]
        [(0, 1, .int .i64 2), (2, 1, .int .i64 p), (5, 12, .agg [vI s.top, vI s.bottom, vI s.padTop, vI s.padBottom, vI s.inset, vI s.orphans, vI s.widows, vI s.head, vI s.before, vI s.after, vI s.inside, vI s.clear])] = some [.int .i64 2, .int .i64 0, .int .i64 p, .int .i64 0, .nils, .int .i64 s.top, .int .i64 s.bottom, .int .i64 s.padTop, .int .i64 s.padBottom, .int .i64 s.inset, .int .i64 s.orphans, .int .i64 s.widows, .int .i64 s.head, .int .i64 s.before, .int .i64 s.after, .int .i64 s.inside, .int .i64 s.clear] := fun _ _ => rfl
    simp -implicitDefEqProofs only [BB,seval,← decide_not,okind,vpre,vpure,intBin,intPre,strBin,strPre,popTo,argSlots,fldV,fldAV,subCells,idxVV,idxAAV,idxSV,sliceV,sliceSV,boundV,szIs,storeOp,storeS,setRowV,eff,extV,splice,eqSV,fitsL,eqCells,eqCell,minmaxV,capV,binBV,nilCheckV,bytesV,hxx,Nd.cells,hst,hsb,a10,a2,encNs_cells,encNs_stays,V.cells_agg,V.cells_int,V.cells_nils,V.cells_own,V.cells_sl,V.cells_str,V.cells_bool,V.cells_fn,V.cells_ptr,V.cells_rp,V.stays_agg,V.stays_int,V.stays_nils,V.stays_own,V.stays_sl,V.stays_str,V.stays_bool,V.stays_fn,V.stays_ptr,V.stays_rp]
    have hbk : backR l x = ⟨2, 0, x.pos, 0, [], stI l x.pos.toNat⟩ := by rw [backR, if_pos hk2]
    rw [hbk, hst] at hres
    refine ⟨_, σ, ?_, ?_, hres.symm, rfl⟩
    · exact hs.updK g2
    · exact wk_edN (hs.updK g2) 2 0 x.pos 0 _
  · have hk1 : x.kind = 1 := by omega
    rw [outR, if_pos hk1] at hout
    obtain ⟨to, hg, hbs, hz, ho⟩ := swapR_some hout
    have hbk : backR l x = ⟨1, x.into, x.pos, (kidsR x.sub (-1)).length, cutL l x.pos to, Sty.zero⟩ := by rw [backR, if_neg (by omega), hg]
    rw [hbk] at hres
    have hgo := (gone_end hb x.into x.pos x.many).2
    rw [hg] at hgo
    have hto : to = endR l x.into x.pos x.many := hgo rfl
    obtain ⟨_, e1, e2, e3, _⟩ := goneR_facts hb hg
    refine Go.pcall rfl (kids_c x.sub (by omega) (-1)) ?_
    (refine Go.of_step Orc.nothing 300 _ _ ?_; simp -implicitDefEqProofs only [BB,seval,← decide_not,okind,vpre,vpure,intBin,intPre,strBin,strPre,popTo,argSlots,fldV,fldAV,subCells,idxVV,idxAAV,idxSV,sliceV,sliceSV,boundV,szIs,storeOp,storeS,setRowV,eff,extV,splice,eqSV,fitsL,eqCells,eqCell,minmaxV,capV,binBV,nilCheckV,bytesV,Orc.nothing,a10,a2,encNs_cells,encNs_stays,V.cells_agg,V.cells_int,V.cells_nils,V.cells_own,V.cells_sl,V.cells_str,V.cells_bool,V.cells_fn,V.cells_ptr,V.cells_rp,V.stays_agg,V.stays_int,V.stays_nils,V.stays_own,V.stays_sl,V.stays_str,V.stays_bool,V.stays_fn,V.stays_ptr,V.stays_rp,lenV_encI])
    have hec := end_c l (by omega) hb x
    rw [← hto] at hec
    refine Go.pcall rfl hec ?_
    have hsl := fun σ => sliceV_encNs (σ := σ) (l := l) (s := x.pos) (e := to) (by omega) e2 e3
    have hcut : (l.drop x.pos.toNat).take (to.toNat - x.pos.toNat) = cutL l x.pos to := rfl
    rw [hcut] at hsl
    have hlc : Sml (cutL l x.pos to) := ⟨by rw [cutL]; simp; omega, fun y hy => hl.2 y (List.mem_of_mem_drop (List.mem_of_mem_take hy))⟩
    (refine Go.of_step Orc.nothing 300 _ _ ?_; simp -implicitDefEqProofs only [BB,seval,← decide_not,okind,vpre,vpure,intBin,intPre,strBin,strPre,popTo,argSlots,fldV,fldAV,subCells,idxVV,idxAAV,idxSV,sliceSV,boundV,szIs,storeOp,storeS,setRowV,eff,extV,splice,eqSV,fitsL,eqCells,eqCell,minmaxV,capV,binBV,nilCheckV,bytesV,Orc.nothing,a10,a2,encNs_cells,encNs_stays,V.cells_agg,V.cells_int,V.cells_nils,V.cells_own,V.cells_sl,V.cells_str,V.cells_bool,V.cells_fn,V.cells_ptr,V.cells_rp,V.stays_agg,V.stays_int,V.stays_nils,V.stays_own,V.stays_sl,V.stays_str,V.stays_bool,V.stays_fn,V.stays_ptr,V.stays_rp,hsl])
    refine Go.pcall rfl (own8_c (cutL l x.pos to) hlc) ?_
    have hsb : ∀ (i p m : Int) (s : List Nd), buildV [.int .i64 0, .int .i64 0, .int .i64 0, .int .i64 0, .nils, .int .i64 0, .int .i64 0, .int .i64 0, .int .i64 0, .int .i64 0, .int .i64 0, .int .i64 0, .int .i64 0, .int .i64 0, .int .i64 0, .int .i64 0, .int .i64 0]
        [(0, 1, .int .i64 1), (1, 1, .int .i64 i), (2, 1, .int .i64 p), (3, 1, .int .i64 m), (4, 1, encNs s)] = some [.int .i64 1, .int .i64 i, .int .i64 p, .int .i64 m, encNs s, .int .i64 0, .int .i64 0, .int .i64 0, .int .i64 0, .int .i64 0, .int .i64 0, .int .i64 0, .int .i64 0, .int .i64 0, .int .i64 0, .int .i64 0, .int .i64 0] := fun _ _ _ _ => rfl
    (refine Go.of_step Orc.nothing 300 _ _ ?_; simp -implicitDefEqProofs only [BB,seval,← decide_not,okind,vpre,vpure,intBin,intPre,strBin,strPre,popTo,argSlots,fldV,fldAV,subCells,idxVV,idxAAV,idxSV,sliceV,sliceSV,boundV,szIs,storeOp,storeS,setRowV,eff,extV,splice,eqSV,fitsL,eqCells,eqCell,minmaxV,capV,binBV,nilCheckV,bytesV,Orc.nothing,a10,a2,encNs_cells,encNs_stays,V.cells_agg,V.cells_int,V.cells_nils,V.cells_own,V.cells_sl,V.cells_str,V.cells_bool,V.cells_fn,V.cells_ptr,V.cells_rp,V.stays_agg,V.stays_int,V.stays_nils,V.stays_own,V.stays_sl,V.stays_str,V.stays_bool,V.stays_fn,V.stays_ptr,V.stays_rp,hsb,hk1])
    exact RetV.pure (hs.updK g2) (by rw [hres]; rfl)
end Go.Vc
namespace Go.Vc
open Go.Proofs
theorem ref_do (l : List Nd) (x : Ed) : doR l x = if (refDoR l x).2 = true then some (refDoR l x).1 else none := by
  cases hb : isB l
  · have hre : refDoR l x = ([], false) := by rw [refDoR, if_pos hb]
    rw [hre, doR, if_pos (.inl hb)]; simp
  have hnb : ¬ (isB l = false) := by rw [hb]; simp
  by_cases hk : x.kind < 1 ∨ 2 < x.kind
  · have hre : refDoR l x = ([], false) := by rw [refDoR, if_neg hnb, if_neg (show ¬ x.kind = 2 by omega), if_pos (.inl (by omega))]
    rw [hre, doR, if_pos (.inr hk)]; simp
  have hdo : doR l x = match outR l x with
      | none => none
      | some out => if isB out = true then some out else none := by
    rw [doR, if_neg (fun h => h.elim hnb hk)]
    all_goals (cases outR l x <;> rfl)
  by_cases hk2 : x.kind = 2
  · have hre : refDoR l x = if blockR l x.pos = false ∨ x.into ≠ 0 ∨ x.many ≠ 0 ∨ 0 < x.sub.length then ([], false) else (restyle l x.pos.toNat x.st, isB (restyle l x.pos.toNat x.st)) := by
      rw [refDoR, if_neg hnb, if_pos hk2]
    rw [hdo, hre, outR, if_neg (show ¬ x.kind = 1 by omega), styleR]
    by_cases hc : blockR l x.pos = false ∨ x.into ≠ 0 ∨ x.many ≠ 0 ∨ 0 < x.sub.length
    · rw [if_pos hc, if_pos hc]; simp
    · rw [if_neg hc, if_neg hc]
  · have hk1 : x.kind = 1 := by omega
    have hre : refDoR l x = if x.kind ≠ 1 ∨ endR l x.into x.pos x.many < 0 ∨ isB x.sub = false ∨ x.st ≠ Sty.zero then ([], false)
        else (ref1R l x (endR l x.into x.pos x.many), isB (ref1R l x (endR l x.into x.pos x.many))) := by
      rw [refDoR, if_neg hnb, if_neg hk2]
    rw [hdo, hre, outR, if_pos hk1, swapR]
    obtain ⟨hgo, hgt⟩ := gone_end hb x.into x.pos x.many
    by_cases he : endR l x.into x.pos x.many < 0
    · have hf : (goesR l x.into x.pos x.many).2.2 = false := by rw [hgo, decide_eq_false_iff_not]; omega
      have hc1 : x.kind ≠ 1 ∨ endR l x.into x.pos x.many < 0 ∨ isB x.sub = false ∨ x.st ≠ Sty.zero := .inr (.inl he)
      rw [if_pos hc1, if_pos (show (goesR l x.into x.pos x.many).2.2 = false ∨ isB x.sub = false ∨ x.st ≠ Sty.zero from .inl hf)]; simp
    · have hok : (goesR l x.into x.pos x.many).2.2 = true := by rw [hgo, decide_eq_true_eq]; omega
      have hto := hgt hok
      by_cases hc : isB x.sub = false ∨ x.st ≠ Sty.zero
      · have hc1 : x.kind ≠ 1 ∨ endR l x.into x.pos x.many < 0 ∨ isB x.sub = false ∨ x.st ≠ Sty.zero := .inr (.inr hc)
        rw [if_pos hc1, if_pos (show (goesR l x.into x.pos x.many).2.2 = false ∨ isB x.sub = false ∨ x.st ≠ Sty.zero from .inr hc)]; simp
      · have hc1 : ¬ (x.kind ≠ 1 ∨ endR l x.into x.pos x.many < 0 ∨ isB x.sub = false ∨ x.st ≠ Sty.zero) := by
          rintro (h | h | h)
          · exact h hk1
          · exact he h
          · exact hc h
        have hc2 : ¬ ((goesR l x.into x.pos x.many).2.2 = false ∨ isB x.sub = false ∨ x.st ≠ Sty.zero) := by
          rintro (h | h)
          · rw [hok] at h; cases h
          · exact hc h
        rw [if_neg hc1, if_neg hc2]
        rcases hg : goesR l x.into x.pos x.many with ⟨fr, to, ok⟩
        rw [hg] at hok hto
        simp only at hok hto
        subst hok
        obtain ⟨rfl, g1, g2, g3, g4, _⟩ := goneR_facts hb hg
        simp only
        rw [swapL_eq hb (by omega) g4 (by omega), ← hto, ref1R]
def Len (N : Nat) (l : List Nd) : Prop := l.length ≤ N ∧ ∀ x ∈ l, x.words.length ≤ 1000000000
theorem Len.hlf {N : Nat} {l : List Nd} (h : Len N l) (hN : N ≤ 5000) : Hlf l := ⟨by have := h.1; omega, h.2⟩
end Go.Vc
namespace Go.Vc
open Go.Proofs
def outF (l : List Nd) (x : Ed) : Option (List Nd) :=
  if x.kind = 1 then (if (goesR l x.into x.pos x.many).2.2 = false ∨ isBF x.sub = false ∨ x.st ≠ Sty.zero then none else some (swapL l x (goesR l x.into x.pos x.many).2.1)) else styleR l x
def doF (l : List Nd) (x : Ed) : Option (List Nd) :=
  if isBF l = false ∨ x.kind < 1 ∨ 2 < x.kind then none else
  match outF l x with
  | none => none
  | some out => if isBF out = true then some out else none
theorem doR_F (l : List Nd) (x : Ed) : doR l x = doF l x := by
  have h : outR l x = outF l x := by simp only [outR,outF,swapR,isB_F]
  rw [doR, doF, h]
  all_goals simp only [isB_F]
  all_goals (split <;> first | rfl | (cases outF l x <;> rfl))
end Go.Vc
namespace Go.Vc
open Go.Proofs
def OutP (K σ : Store) (e sz : Nat) (v : V) (rows : List V) : Prop := (v = .nils ∧ rows = []) ∨ ∃ id all, v = .own id 0 rows.length ∧ σ id = some ⟨e, sz, all⟩ ∧ all.take rows.length = rows ∧ K id = none
theorem OutV.outP {K σ : Store} {e sz : Nat} {v : V} {rows : List V} (h : OutV K σ e sz v rows) : OutP K σ e sz v rows := by
  rcases h with h | ⟨id, h1, h2, h3⟩
  · exact .inl h
  · exact .inr ⟨id, rows, h1, h2, List.take_length, h3⟩
theorem OutP.dst {K σ : Store} {e sz : Nat} {v : V} {rows : List V} (h : OutP K σ e sz v rows) {σ1 : Store} (hs : SubStore σ σ1) :
    ∃ idA, dstRows σ1 e sz v = some (rows, idA) ∧ ∀ K' : Store, SubStore K' K → ∀ σ2, SubStore K' σ2 → SubStore K' (delO σ2 idA) := by
  rcases h with ⟨rfl, rfl⟩ | ⟨id, all, rfl, ho, ht, hk⟩
  · exact ⟨none, rfl, fun _ _ _ h => h⟩
  · refine ⟨some id, ?_, fun K' hK σ2 h => h.delK (hK.none hk)⟩
    have hl : rows.length ≤ all.length := by
      have := congrArg List.length ht
      simp at this; omega
    simp only [dstRows,hs _ _ ho]
    rw [if_pos ⟨trivial, trivial, trivial, hl⟩, ht]
theorem OutP.wk {K σ : Store} {e sz : Nat} {v : V} {rows : List V} (h : OutP K σ e sz v rows) {K' : Store} (hK : SubStore K' K) (hs : SubStore K' σ) : Wk σ K' v (.sl sz rows) := by
  rcases h with ⟨rfl, rfl⟩ | ⟨id, all, rfl, ho, ht, hk⟩
  · exact Wk.nils sz
  · have hl : rows.length ≤ all.length := by
      have := congrArg List.length ht
      simp at this; omega
    have := Wk.own hs ho (hK.none hk) (off := 0) (len := rows.length) (by simpa using hl)
    rw [List.drop_zero, ht] at this
    exact this
theorem OutP.retv {K σ : Store} {e sz : Nat} {v : V} {rows : List V} (h : OutP K σ e sz v rows) (hs : SubStore K σ) {v0 : V} (hv : V.sl sz rows = v0) :
    RetV v σ fun r σ' => r = v0 ∧ σ' = K := ⟨_, K, hs, h.wk (SubStore.refl K) hs, hv, rfl⟩
theorem OutP.mono {K σ σ' : Store} {e sz : Nat} {v : V} {rows : List V} (h : OutP K σ e sz v rows) (hs : SubStore σ σ') : OutP K σ' e sz v rows := by
  rcases h with h | ⟨id, all, h1, h2, h3⟩
  · exact .inl h
  · exact .inr ⟨id, all, h1, hs _ _ h2, h3⟩
set_option maxRecDepth 100000 in
theorem grow_c (n : Nat) (hn : n ≤ 100000000) (σ : Store) : Contract Try.prog 58 [.nils, vI n] σ fun r σ' => SubStore σ σ' ∧ OutP σ σ' 42 20 r [] := by
  refine Contract.of_runs Try.func58 e58 k58 (by simp [c58]) ?_
  refine Runs.mix 5 ?_
  (refine Runs.of_step Orc.nothing 300 ?_; simp -implicitDefEqProofs only [BB,seval,← decide_not,okind,vpre,vpure,intBin,intPre,strBin,strPre,popTo,argSlots,fldV,fldAV,subCells,idxVV,idxAAV,idxSV,sliceV,sliceSV,boundV,szIs,storeOp,storeS,setRowV,eff,extV,buildV,splice,eqSV,fitsL,eqCells,eqCell,minmaxV,capV,binBV,nilCheckV,bytesV,V.cells,V.stays,Orc.nothing,c58])
  refine And.intro (fun h => by omega) (fun h => ?_)
  refine ⟨inR_i64 (by omega) (by omega), inR_i64 (by omega) (by omega), ?_⟩
  have e1 : (n : Int) - 0 = n := by omega
  rw [e1]
  refine And.intro (fun h1 => ?_) (fun h1 => ?_)
  · have hb : (0 : Int) < n ∧ (n : Int).toNat * 177 ≤ 140737488355328 := by omega
    simp -implicitDefEqProofs only [BB,seval,← decide_not,okind,vpre,vpure,intBin,intPre,strBin,strPre,popTo,argSlots,fldV,fldAV,subCells,idxVV,idxAAV,idxSV,sliceV,sliceSV,boundV,szIs,storeOp,storeS,setRowV,eff,extV,buildV,splice,eqSV,fitsL,eqCells,eqCell,minmaxV,capV,binBV,nilCheckV,bytesV,V.cells,V.stays,hb]
    refine effR_new fun id1 σ1 s1 a1 f1 => ?_
    have hsl : sliceV σ1 20 (.own id1 0 n) none (some (.int .i64 0)) none = some (.own id1 0 0) := by
      simp only [sliceV,boundV,szIs,a1]
      rw [if_pos ⟨by omega, by omega, by omega, by omega, by simp⟩]
      simp
    simp -implicitDefEqProofs only [BB,seval,← decide_not,okind,vpre,vpure,intBin,intPre,strBin,strPre,popTo,argSlots,fldV,fldAV,subCells,idxVV,idxAAV,idxSV,sliceSV,boundV,szIs,storeOp,storeS,setRowV,eff,extV,buildV,splice,eqSV,fitsL,eqCells,eqCell,minmaxV,capV,binBV,nilCheckV,bytesV,V.cells,V.stays,a1,Int.toNat_natCast,hsl]
    refine ⟨_, _, SubStore.refl _, Wk.refl (SubStore.refl _) _, s1, .inr ⟨id1, _, rfl, a1, rfl, f1⟩⟩
  · exact ⟨_, _, SubStore.refl _, Wk.refl (SubStore.refl _) _, SubStore.refl _, .inl ⟨rfl, rfl⟩⟩
def encTr (L : List (List Nd)) : V := .sl 1 (L.map encNs)
theorem lenV_encT (L : List (List Nd)) : lenV false (encTr L) = some (.int .i64 L.length) := by simp [encTr, lenV]
theorem idxAV_encT {σ : Store} {L : List (List Nd)} {i : Nat} (h : i < L.length) : idxAV σ 1 (encTr L) (.int .i64 i) = some (.rp (encNs L[i])) := by
  simp [encTr, idxAV, h]
theorem loadV_rp_encNs (σ : Store) (l : List Nd) : loadV σ false 1 (.rp (encNs l)) = some (encNs l) := by simp [loadV, encNs, V.cells]
theorem sliceT_pre {σ : Store} {L : List (List Nd)} {s : Int} (h1 : 0 ≤ s) (h2 : s ≤ L.length) :
    sliceV σ 1 (encTr L) none (some (.int .i64 s)) none = some (encTr (L.take s.toNat)) := by
  simp only [encTr,sliceV,boundV,List.length_map]
  rw [if_pos ⟨Int.le_refl _, h1, h2, Int.le_refl _, trivial⟩]
  simp [List.map_take]
theorem sliceT_from {σ : Store} {L : List (List Nd)} {s : Int} (h1 : 0 ≤ s) (h2 : s ≤ L.length) :
    sliceV σ 1 (encTr L) (some (.int .i64 s)) none none = some (encTr (L.drop s.toNat)) := by
  simp only [encTr,sliceV,boundV,List.length_map]
  rw [if_pos ⟨h1, h2, Int.le_refl _, Int.le_refl _, trivial⟩]
  simp only [V.sl.injEq,Option.some.injEq,true_and]
  rw [List.map_drop, List.take_of_length_le]
  simp
set_option maxRecDepth 100000 in
theorem concat_c (L : List (List Nd)) (hL : L.length ≤ 10000) (hl : ∀ l ∈ L, l.length ≤ 10000) : PFun Try.prog 37 [encTr L] (encNs L.flatten) := fun σ => by
  have hsum : ∀ i, i ≤ L.length → (L.take i).flatten.length ≤ i * 10000 := fun i hi => by
    induction i with
    | zero => simp
    | succ i ih =>
      rw [List.take_succ_eq_append_getElem (by omega), List.flatten_append, List.length_append]
      have := hl _ (List.getElem_mem (show i < L.length by omega))
      have := ih (by omega)
      simp only [List.flatten_cons,List.flatten_nil,List.append_nil]
      omega
  have hstep : ∀ i (h : i < L.length), (L.take (i + 1)).flatten = (L.take i).flatten ++ L[i] := fun i h => by
    rw [List.take_succ_eq_append_getElem h, List.flatten_append]; simp
  refine Contract.of_runs Try.func37 e37 k37 (by simp [c37]) ?_
  refine Runs.mix 9 ?_
  (refine Runs.of_step Orc.nothing 300 ?_; simp -implicitDefEqProofs only [BB,seval,← decide_not,okind,vpre,vpure,intBin,intPre,strBin,strPre,popTo,argSlots,fldV,fldAV,subCells,idxVV,idxAAV,idxSV,sliceV,sliceSV,boundV,szIs,storeOp,storeS,setRowV,eff,extV,buildV,splice,eqSV,fitsL,eqCells,eqCell,minmaxV,capV,binBV,nilCheckV,bytesV,V.cells,V.stays,Orc.nothing,c37,lenV_encT])
  refine Runs.loop (fun m st => ∃ i : Nat, i ≤ L.length ∧ m = L.length - i ∧ st.σ = σ ∧ st.s 0 = encTr L ∧ st.s 2 = .nils ∧ st.s 3 = vI (L.take i).flatten.length ∧ st.s 9 = encTr L ∧ st.s 10 = vI L.length ∧ st.s 11 = vI i) L.length ?_ ?_
  · exact ⟨0, by omega, by omega, rfl, rfl, rfl, rfl, rfl, rfl, rfl⟩
  · rintro m ⟨s, σ'⟩ ⟨i, hi, rfl, hσ, h0, h2, h3, h9, h10, h11⟩
    simp only at hσ h0 h2 h3 h9 h10 h11
    subst hσ
    refine Runs.mix 12 ?_
    (refine Runs.of_step Orc.nothing 300 ?_; simp -implicitDefEqProofs only [BB,seval,← decide_not,okind,vpre,vpure,intBin,intPre,strBin,strPre,popTo,argSlots,fldV,fldAV,subCells,idxVV,idxAAV,idxSV,sliceV,sliceSV,boundV,szIs,storeOp,storeS,setRowV,eff,extV,buildV,splice,eqSV,fitsL,eqCells,eqCell,minmaxV,capV,binBV,nilCheckV,bytesV,V.cells,V.stays,Orc.nothing,h0,h2,h3,h9,h10,h11])
    refine And.intro (fun hlt => ?_) (fun hge => ?_)
    · have hlt' : i < L.length := by omega
      have hs1 := hsum i hi
      have hs2 := hsum (i + 1) hlt'
      have hst := hstep i hlt'
      have hll := hl _ (List.getElem_mem hlt')
      have hlen : (L.take (i + 1)).flatten.length = (L.take i).flatten.length + L[i].length := by rw [hst, List.length_append]
      simp -implicitDefEqProofs only [BB,seval,← decide_not,okind,vpre,vpure,intBin,intPre,strBin,strPre,popTo,argSlots,fldV,fldAV,subCells,idxVV,idxAAV,idxSV,sliceV,sliceSV,boundV,szIs,storeOp,storeS,setRowV,eff,extV,buildV,splice,eqSV,fitsL,eqCells,eqCell,minmaxV,capV,binBV,nilCheckV,bytesV,V.cells,V.stays,idxAV_encT hlt',loadV_rp_encNs,lenV_encNs,h0,h2,h3,h9,h10,h11]
      refine ⟨inR_i64 (by omega) (by omega), And.intro (fun h => by omega) (fun h => ⟨inR_i64 (by omega) (by omega), _, ?_, i + 1, by omega, rfl, ?_⟩)⟩
      · omega
      · rw [hlen]
        simp
    · have hie : i = L.length := by omega
      subst hie
      rw [List.take_length]
      have hs0 := hsum L.length (Nat.le_refl _)
      rw [List.take_length] at hs0
      refine Runs.call rfl rfl rfl (grow_c L.flatten.length (by omega) _) ?_
      rintro r σ1 ⟨hsub1, hout1⟩
      simp only at hsub1 hout1
      (refine Runs.of_step Orc.nothing 300 ?_; simp -implicitDefEqProofs only [BB,seval,← decide_not,okind,vpre,vpure,intBin,intPre,strBin,strPre,popTo,argSlots,fldV,fldAV,subCells,idxVV,idxAAV,idxSV,sliceV,sliceSV,boundV,szIs,storeOp,storeS,setRowV,eff,extV,buildV,splice,eqSV,fitsL,eqCells,eqCell,minmaxV,capV,binBV,nilCheckV,bytesV,V.cells,V.stays,Orc.nothing,h0,h2,h3,h9,h10,h11,lenV_encT])
      refine Runs.loop (fun m st => ∃ i : Nat, i ≤ L.length ∧ m = L.length - i ∧ SubStore σ' st.σ ∧ OutP σ' st.σ 42 20 (st.s 6) ((L.take i).flatten.map encN) ∧ st.s 25 = encTr L ∧ st.s 26 = vI L.length ∧ st.s 27 = vI i) L.length ?_ ?_
      · exact ⟨0, by omega, by omega, hsub1, hout1, rfl, rfl, rfl⟩
      · rintro m ⟨s, σ2⟩ ⟨i, hi, rfl, hsub, hout, h25, h26, h27⟩
        simp only at hsub hout h25 h26 h27
        refine Runs.mix 12 ?_
        (refine Runs.of_step Orc.nothing 300 ?_; simp -implicitDefEqProofs only [BB,seval,← decide_not,okind,vpre,vpure,intBin,intPre,strBin,strPre,popTo,argSlots,fldV,fldAV,subCells,idxVV,idxAAV,idxSV,sliceV,sliceSV,boundV,szIs,storeOp,storeS,setRowV,eff,extV,buildV,splice,eqSV,fitsL,eqCells,eqCell,minmaxV,capV,binBV,nilCheckV,bytesV,V.cells,V.stays,Orc.nothing,h25,h26,h27])
        refine And.intro (fun hlt => ?_) (fun hge => ?_)
        · have hlt' : i < L.length := by omega
          have hs1 := hsum i hi
          have hst := hstep i hlt'
          have hll := hl _ (List.getElem_mem hlt')
          have hsrc : ∀ (σ : Store) (l : List Nd), srcRows σ 20 (encNs l) = some (l.map encN) := fun σ l => by simp [encNs, srcRows]
          obtain ⟨idA, hd, hdel⟩ := hout.dst (SubStore.refl _)
          have hb : ((L.take i).flatten.length + L[i].length) * 177 ≤ 140737488355328 := by omega
          simp -implicitDefEqProofs only [BB,seval,← decide_not,okind,vpre,vpure,intBin,intPre,strBin,strPre,popTo,argSlots,fldV,fldAV,subCells,idxVV,idxAAV,idxSV,sliceV,sliceSV,boundV,szIs,storeOp,storeS,setRowV,eff,extV,buildV,splice,eqSV,fitsL,eqCells,eqCell,minmaxV,capV,binBV,nilCheckV,bytesV,V.cells,V.stays,idxAV_encT hlt',loadV_rp_encNs,h25,h26,h27,hd,hsrc,List.length_map,hb]
          refine effR_put fun id4 σ4 s4 a4 f4 => ?_
          have hs4 := (hdel σ' (SubStore.refl _) σ2 hsub).trans s4
          simp -implicitDefEqProofs only [BB,seval,← decide_not,okind,vpre,vpure,intBin,intPre,strBin,strPre,popTo,argSlots,fldV,fldAV,subCells,idxVV,idxAAV,idxSV,sliceV,sliceSV,boundV,szIs,storeOp,storeS,setRowV,eff,extV,buildV,splice,eqSV,fitsL,eqCells,eqCell,minmaxV,capV,binBV,nilCheckV,bytesV,V.cells,V.stays,h25,h26,h27]
          refine ⟨inR_i64 (by omega) (by omega), _, ?_, i + 1, by omega, rfl, hs4, ?_, ?_⟩
          · omega
          · rw [hst, List.map_append]
            exact (OutV.new (by simp only [List.length_append,List.length_map]) a4 (hsub.none f4)).outP
          · simp
        · have hie : i = L.length := by omega
          subst hie
          rw [List.take_length] at hout
          exact hout.retv hsub rfl
end Go.Vc
namespace Go.Vc
open Go.Proofs
def treesR (l : List Nd) : List (List Nd) := (kidsR l (-1)).map fun k => cutL l k (k + szI l k.toNat)
theorem kids_end {l : List Nd} (hb : isB l = true) {k : Int} (h : k ∈ kidsR l (-1)) : 0 ≤ k ∧ k.toNat < l.length ∧ k + szI l k.toNat ≤ l.length ∧ 1 ≤ szI l k.toNat := by
  obtain ⟨h1, h2⟩ := kidsR_mem h
  have hrows : rowsB l 0 l.length = true := by simp only [isB,Bool.and_eq_true] at hb; exact hb.2
  have := rowsB_ends (Nat.le_refl _) hrows (Nat.zero_le k.toNat) h2
  omega
theorem cutL_len {l : List Nd} {a e : Int} : (cutL l a e).length ≤ l.length := by rw [cutL]; simp; omega
theorem treesR_mem {l t : List Nd} (h : t ∈ treesR l) : t.length ≤ l.length ∧ ∀ x ∈ t, x ∈ l := by
  simp only [treesR,List.mem_map] at h
  obtain ⟨k, _, rfl⟩ := h
  exact ⟨cutL_len, fun x hx => List.mem_of_mem_drop (List.mem_of_mem_take hx)⟩
theorem treesR_len (l : List Nd) : (treesR l).length ≤ l.length := by rw [treesR, List.length_map]; exact kidsR_len l (-1)
set_option maxRecDepth 100000 in
theorem trees_c (l : List Nd) (hl : Fine l) (hb : isB l = true) : PFun Try.prog 34 [encNs l] (encTr (treesR l)) := fun σ => by
  have hl1 := hl.1
  have hkl := kidsR_len l (-1)
  have hke := fun k (h : k ∈ kidsR l (-1)) => kids_end hb h
  refine Contract.of_runs Try.func34 e34 k34 (by simp [c34]) ?_
  refine Runs.mix 6 ?_
  (refine Runs.of_step Orc.nothing 300 ?_; simp -implicitDefEqProofs only [BB,seval,← decide_not,okind,vpre,vpure,intBin,intPre,strBin,strPre,popTo,argSlots,fldV,fldAV,subCells,idxVV,idxAAV,idxSV,sliceV,sliceSV,boundV,szIs,storeOp,storeS,setRowV,eff,extV,buildV,splice,eqSV,fitsL,eqCells,eqCell,minmaxV,capV,binBV,nilCheckV,bytesV,V.cells,V.stays,Orc.nothing,c34])
  refine Runs.pcall rfl rfl rfl (kids9_p l hl hb (-1) (.inl rfl) _) ?_
  have hT : encTr (treesR l) = .sl 1 ((kidsR l (-1)).map fun k => encNs (cutL l k (k + szI l k.toNat))) := by
    rw [encTr, treesR, List.map_map]; rfl
  rw [hT]
  generalize kidsR l (-1) = ks at *
  (refine Runs.of_step Orc.nothing 300 ?_; simp -implicitDefEqProofs only [BB,seval,← decide_not,okind,vpre,vpure,intBin,intPre,strBin,strPre,popTo,argSlots,fldV,fldAV,subCells,idxVV,idxAAV,idxSV,sliceV,sliceSV,boundV,szIs,storeOp,storeS,setRowV,eff,extV,buildV,splice,eqSV,fitsL,eqCells,eqCell,minmaxV,capV,binBV,nilCheckV,bytesV,V.cells,V.stays,Orc.nothing,lenV_encI])
  refine Runs.loop (fun m st => ∃ i : Nat, i ≤ ks.length ∧ m = ks.length - i ∧ SubStore σ st.σ ∧ OutV σ st.σ 22 1 (st.s 3) ((ks.take i).map fun k => encNs (cutL l k (k + szI l k.toNat))) ∧ st.s 0 = encNs l ∧ st.s 7 = encI ks ∧ st.s 8 = vI ks.length ∧ st.s 9 = vI i) ks.length ?_ ?_
  · exact ⟨0, by omega, by omega, SubStore.refl _, .inl ⟨rfl, rfl⟩, rfl, rfl, rfl, rfl⟩
  · rintro m ⟨s, σ'⟩ ⟨i, hi, rfl, hsub, hout, h0, h7, h8, h9⟩
    simp only at hsub hout h0 h7 h8 h9
    refine Runs.mix 10 ?_
    (refine Runs.of_step Orc.nothing 300 ?_; simp -implicitDefEqProofs only [BB,seval,← decide_not,okind,vpre,vpure,intBin,intPre,strBin,strPre,popTo,argSlots,fldV,fldAV,subCells,idxVV,idxAAV,idxSV,sliceV,sliceSV,boundV,szIs,storeOp,storeS,setRowV,eff,extV,buildV,splice,eqSV,fitsL,eqCells,eqCell,minmaxV,capV,binBV,nilCheckV,bytesV,V.cells,V.stays,Orc.nothing,h0,h7,h8,h9])
    refine And.intro (fun hlt => ?_) (fun hge => ?_)
    · have hlt' : i < ks.length := by omega
      obtain ⟨g1, g2, g3, g4⟩ := hke _ (List.getElem_mem hlt')
      have hst : (ks.take (i + 1)).map (fun k => encNs (cutL l k (k + szI l k.toNat))) = (ks.take i).map (fun k => encNs (cutL l k (k + szI l k.toNat))) ++ [encNs (cutL l ks[i] (ks[i] + szI l ks[i].toNat))] := by
        rw [List.take_succ_eq_append_getElem hlt', List.map_append]; rfl
      have hx := fun σ => idxAV_encNsI (σ := σ) g1 g2
      have hse := szI_eq g2
      have hsl := fun σ => sliceV_encNs (σ := σ) (l := l) (s := ks[i]) (e := ks[i] + szI l ks[i].toNat) g1 (by omega) g3
      have hcut : (l.drop ks[i].toNat).take ((ks[i] + szI l ks[i].toNat).toNat - ks[i].toNat) = cutL l ks[i] (ks[i] + szI l ks[i].toNat) := rfl
      rw [hcut] at hsl
      simp -implicitDefEqProofs only [BB,seval,← decide_not,okind,vpre,vpure,intBin,intPre,strBin,strPre,popTo,argSlots,fldV,fldAV,subCells,idxVV,idxAAV,idxSV,sliceSV,boundV,szIs,storeOp,storeS,setRowV,eff,extV,buildV,splice,eqSV,fitsL,eqCells,eqCell,minmaxV,capV,binBV,nilCheckV,bytesV,V.cells,V.stays,idxAV_encI hlt',hx,Nd.cells,h0,h7,h8,h9]
      rw [← hse]
      simp -implicitDefEqProofs only [BB,seval,← decide_not,okind,vpre,vpure,intBin,intPre,strBin,strPre,popTo,argSlots,fldV,fldAV,subCells,idxVV,idxAAV,idxSV,sliceSV,boundV,szIs,storeOp,storeS,setRowV,eff,extV,buildV,splice,eqSV,fitsL,eqCells,eqCell,minmaxV,capV,binBV,nilCheckV,bytesV,hsl,h0,h7,h8,h9,encNs_cells,encNs_stays,V.cells_agg,V.cells_int,V.cells_nils,V.cells_own,V.cells_sl,V.cells_str,V.cells_bool,V.cells_fn,V.cells_ptr,V.cells_rp,V.stays_agg,V.stays_int,V.stays_nils,V.stays_own,V.stays_sl,V.stays_str,V.stays_bool,V.stays_fn,V.stays_ptr,V.stays_rp]
      refine ⟨inR_i64 (by omega) (by omega), ?_⟩
      refine effR_new fun id1 σ2 s2 a1 f1 => ?_
      obtain ⟨idA, hd, hdel⟩ := hout.dst s2
      have hb2 : (i + 1) * 25 ≤ 140737488355328 := by omega
      have hlt2 : (ks.take i).length = i := by simp; omega
      simp -implicitDefEqProofs only [BB,seval,← decide_not,okind,vpre,vpure,intBin,intPre,strBin,strPre,popTo,argSlots,fldV,fldAV,subCells,idxVV,idxAAV,idxSV,sliceV,sliceSV,boundV,szIs,storeOp,storeS,setRowV,eff,extV,buildV,splice,eqSV,fitsL,eqCells,eqCell,minmaxV,capV,binBV,nilCheckV,bytesV,V.cells,V.stays,hd,srcOne a1,List.length_map,hlt2,hb2,h0,h7,h8,h9]
      refine effR_put fun id2 σ3 s3 a2 f2 => ?_
      have hs3 := (hdel σ (SubStore.refl σ) σ2 (hsub.trans s2)).trans s3
      simp -implicitDefEqProofs only [BB,seval,← decide_not,okind,vpre,vpure,intBin,intPre,strBin,strPre,popTo,argSlots,fldV,fldAV,subCells,idxVV,idxAAV,idxSV,sliceV,sliceSV,boundV,szIs,storeOp,storeS,setRowV,eff,extV,buildV,splice,eqSV,fitsL,eqCells,eqCell,minmaxV,capV,binBV,nilCheckV,bytesV,V.cells,V.stays,h0,h7,h8,h9]
      refine ⟨inR_i64 (by omega) (by omega), _, ?_, i + 1, by omega, rfl, hs3, ?_, ?_⟩
      · omega
      · rw [hst]
        exact OutV.new (by simp only [List.length_append,List.length_map,hlt2,List.length_cons,List.length_nil]) a2 ((hsub.trans s2).none f2)
      · simp
    · have hie : i = ks.length := by omega
      subst hie
      rw [List.take_length] at hout
      exact hout.retv hsub rfl
def alikeN (eq : Nat → Bool) : Nat → Nat → Nat
  | 0, n => n
  | f + 1, n => if eq n then alikeN eq f (n + 1) else n
def alikeR (tell : List (List Nd) → Nat → List Nd) (a b : List (List Nd)) : Nat := alikeN (fun n => decide (tell a n = tell b n)) (min a.length b.length) 0
theorem alikeN_le (eq : Nat → Bool) : ∀ f n, n ≤ alikeN eq f n ∧ alikeN eq f n ≤ n + f
  | 0, n => by simp [alikeN]
  | f + 1, n => by
    rw [alikeN]
    split
    · have := alikeN_le eq f (n + 1); omega
    · omega
theorem alikeR_le (tell : List (List Nd) → Nat → List Nd) (a b : List (List Nd)) : alikeR tell a b ≤ a.length ∧ alikeR tell a b ≤ b.length := by
  have := alikeN_le (fun n => decide (tell a n = tell b n)) (min a.length b.length) 0
  rw [alikeR]; omega
set_option maxRecDepth 100000 in
theorem alike_c (tell : List (List Nd) → Nat → List Nd) (g : FuncId) (a b : List (List Nd)) (ha : a.length ≤ 10000) (hb : b.length ≤ 10000)
    (hg : ∀ (L : List (List Nd)) (k : Nat), L.length ≤ 10000 → k < L.length → PFun Try.prog g [encTr L, vI k] (encNs (tell L k)))
    (hfa : ∀ k, k < a.length → Fine (tell a k)) (hfb : ∀ k, k < b.length → Fine (tell b k)) : PFun Try.prog 35 [encTr a, encTr b, .fn g []] (vI (alikeR tell a b)) := fun σ => by
  refine Contract.of_runs Try.func35 e35 k35 (by simp [c35]) ?_
  refine Runs.mix 8 ?_
  (refine Runs.of_step Orc.nothing 300 ?_; simp -implicitDefEqProofs only [BB,seval,← decide_not,okind,vpre,vpure,intBin,intPre,strBin,strPre,popTo,argSlots,fldV,fldAV,subCells,idxVV,idxAAV,idxSV,sliceV,sliceSV,boundV,szIs,storeOp,storeS,setRowV,eff,extV,buildV,splice,eqSV,fitsL,eqCells,eqCell,minmaxV,capV,binBV,nilCheckV,bytesV,V.cells,V.stays,Orc.nothing,c35])
  have hR : alikeR tell a b = alikeN (fun n => decide (tell a n = tell b n)) (min a.length b.length) 0 := rfl
  rw [hR]
  generalize hN : alikeN (fun n => decide (tell a n = tell b n)) (min a.length b.length) 0 = N at *
  refine Runs.loop (fun m st => ∃ n : Nat, n ≤ min a.length b.length ∧ m = min a.length b.length - n ∧ N = alikeN (fun n => decide (tell a n = tell b n)) m n ∧ st.σ = σ ∧ st.s 0 = encTr a ∧ st.s 1 = encTr b ∧ st.s 2 = .fn g [] ∧ st.s 7 = vI n) (min a.length b.length) ?_ ?_
  · exact ⟨0, by omega, by omega, hN.symm, rfl, rfl, rfl, rfl, rfl⟩
  · rintro m ⟨s, σ'⟩ ⟨n, hn, hm, heq, hσ, h0, h1, h2, h7⟩
    simp only at hσ h0 h1 h2 h7
    subst hσ
    refine Runs.mix 8 ?_
    (refine Runs.of_step Orc.nothing 300 ?_; simp -implicitDefEqProofs only [BB,seval,← decide_not,okind,vpre,vpure,intBin,intPre,strBin,strPre,popTo,argSlots,fldV,fldAV,subCells,idxVV,idxAAV,idxSV,sliceV,sliceSV,boundV,szIs,storeOp,storeS,setRowV,eff,extV,buildV,splice,eqSV,fitsL,eqCells,eqCell,minmaxV,capV,binBV,nilCheckV,bytesV,V.cells,V.stays,Orc.nothing,h0,h1,h2,h7,lenV_encT])
    have hmin : (if (b.length : Int) < a.length then (b.length : Int) else a.length) = ((min a.length b.length : Nat) : Int) := by
      split <;> omega
    rw [hmin]
    refine And.intro (fun hlt => ?_) (fun hge => ?_)
    · have hlt' : n < min a.length b.length := by omega
      obtain ⟨k, rfl⟩ : ∃ k, m = k + 1 := ⟨m - 1, by omega⟩
      refine Runs.pcall (f := g) (caps := []) rfl rfl rfl (hg a n ha (by omega) _) ?_
      (refine Runs.of_step Orc.nothing 300 ?_; simp -implicitDefEqProofs only [BB,seval,← decide_not,okind,vpre,vpure,intBin,intPre,strBin,strPre,popTo,argSlots,fldV,fldAV,subCells,idxVV,idxAAV,idxSV,sliceV,sliceSV,boundV,szIs,storeOp,storeS,setRowV,eff,extV,buildV,splice,eqSV,fitsL,eqCells,eqCell,minmaxV,capV,binBV,nilCheckV,bytesV,V.cells,V.stays,Orc.nothing,h0,h1,h2,h7])
      refine Runs.pcall (f := g) (caps := []) rfl rfl rfl (hg b n hb (by omega) _) ?_
      (refine Runs.of_step Orc.nothing 300 ?_; simp -implicitDefEqProofs only [BB,seval,← decide_not,okind,vpre,vpure,intBin,intPre,strBin,strPre,popTo,argSlots,fldV,fldAV,subCells,idxVV,idxAAV,idxSV,sliceV,sliceSV,boundV,szIs,storeOp,storeS,setRowV,eff,extV,buildV,splice,eqSV,fitsL,eqCells,eqCell,minmaxV,capV,binBV,nilCheckV,bytesV,V.cells,V.stays,Orc.nothing,h0,h1,h2,h7])
      refine Runs.pcall rfl rfl rfl (same9_c (tell a n) (tell b n) (hfa n (by omega)) (hfb n (by omega)) _) ?_
      rw [alikeN] at heq
      by_cases he : tell a n = tell b n
      · have hd : decide (tell a n = tell b n) = true := decide_eq_true he
        rw [hd] at heq ⊢
        simp only [if_true] at heq
        (refine Runs.of_step Orc.nothing 300 ?_; simp -implicitDefEqProofs only [BB,seval,← decide_not,okind,vpre,vpure,intBin,intPre,strBin,strPre,popTo,argSlots,fldV,fldAV,subCells,idxVV,idxAAV,idxSV,sliceV,sliceSV,boundV,szIs,storeOp,storeS,setRowV,eff,extV,buildV,splice,eqSV,fitsL,eqCells,eqCell,minmaxV,capV,binBV,nilCheckV,bytesV,V.cells,V.stays,Orc.nothing,h0,h1,h2,h7])
        exact ⟨inR_i64 (by omega) (by omega), k, by omega, n + 1, by omega, by omega, heq, by simp⟩
      · have hd : decide (tell a n = tell b n) = false := decide_eq_false he
        rw [hd] at heq ⊢
        simp only [Bool.false_eq_true,if_false] at heq
        (refine Runs.of_step Orc.nothing 300 ?_; simp -implicitDefEqProofs only [BB,seval,← decide_not,okind,vpre,vpure,intBin,intPre,strBin,strPre,popTo,argSlots,fldV,fldAV,subCells,idxVV,idxAAV,idxSV,sliceV,sliceSV,boundV,szIs,storeOp,storeS,setRowV,eff,extV,buildV,splice,eqSV,fitsL,eqCells,eqCell,minmaxV,capV,binBV,nilCheckV,bytesV,V.cells,V.stays,Orc.nothing,h0,h1,h2,h7])
        exact RetV.same (by rw [heq])
    · have hm0 : m = 0 := by omega
      subst hm0
      rw [alikeN] at heq
      exact RetV.same (by rw [heq])
def tellF (L : List (List Nd)) (k : Nat) : List Nd := (L[k]?).getD []
def tellL (L : List (List Nd)) (k : Nat) : List Nd := (L[L.length - 1 - k]?).getD []
set_option maxRecDepth 100000 in
theorem tellF_c (L : List (List Nd)) (k : Nat) (hL : L.length ≤ 10000) (hk : k < L.length) : PFun Try.prog 36 [encTr L, vI k] (encNs (tellF L k)) := fun σ => by
  refine Contract.of_runs Try.func36 e36 k36 (by simp [c36]) ?_
  refine Runs.mix 5 ?_
  (refine Runs.of_step Orc.nothing 300 ?_; simp -implicitDefEqProofs only [BB,seval,← decide_not,okind,vpre,vpure,intBin,intPre,strBin,strPre,popTo,argSlots,fldV,fldAV,subCells,idxVV,idxAAV,idxSV,sliceV,sliceSV,boundV,szIs,storeOp,storeS,setRowV,eff,extV,buildV,splice,eqSV,fitsL,eqCells,eqCell,minmaxV,capV,binBV,nilCheckV,bytesV,V.cells,V.stays,Orc.nothing,c36,idxAV_encT hk,loadV_rp_encNs])
  exact RetV.same (by simp [tellF, hk])
set_option maxRecDepth 100000 in
theorem tellL_c (L : List (List Nd)) (k : Nat) (hL : L.length ≤ 10000) (hk : k < L.length) : PFun Try.prog 38 [encTr L, vI k] (encNs (tellL L k)) := fun σ => by
  refine Contract.of_runs Try.func38 e38 k38 (by simp [c38]) ?_
  refine Runs.mix 5 ?_
  (refine Runs.of_step Orc.nothing 300 ?_; simp -implicitDefEqProofs only [BB,seval,← decide_not,okind,vpre,vpure,intBin,intPre,strBin,strPre,popTo,argSlots,fldV,fldAV,subCells,idxVV,idxAAV,idxSV,sliceV,sliceSV,boundV,szIs,storeOp,storeS,setRowV,eff,extV,buildV,splice,eqSV,fitsL,eqCells,eqCell,minmaxV,capV,binBV,nilCheckV,bytesV,V.cells,V.stays,Orc.nothing,c38,lenV_encT])
  have hk2 : L.length - 1 - k < L.length := by omega
  have e : (L.length : Int) - 1 - k = ((L.length - 1 - k : Nat) : Int) := by omega
  rw [e]
  simp -implicitDefEqProofs only [BB,seval,← decide_not,okind,vpre,vpure,intBin,intPre,strBin,strPre,popTo,argSlots,fldV,fldAV,subCells,idxVV,idxAAV,idxSV,sliceV,sliceSV,boundV,szIs,storeOp,storeS,setRowV,eff,extV,buildV,splice,eqSV,fitsL,eqCells,eqCell,minmaxV,capV,binBV,nilCheckV,bytesV,V.cells,V.stays,idxAV_encT hk2,loadV_rp_encNs]
  exact ⟨inR_i64 (by omega) (by omega), inR_i64 (by omega) (by omega), RetV.same (by simp [tellL, hk2])⟩
def betweenC (a b : List Nd) : Ed :=
  let x := treesR a; let y := treesR b
  let first := alikeR tellF x y
  let last := alikeR tellL (x.drop first) (y.drop first)
  ⟨1, -1, (x.take first).flatten.length, ((x.drop first).length : Int) - last, ((y.drop first).take ((y.drop first).length - last)).flatten, Sty.zero⟩
def betweenR (a b : List Nd) : Ed := if isB a && isB b then betweenC a b else Ed.zero
end Go.Vc
namespace Go.Vc
open Go.Proofs
theorem flatten_words {L : List (List Nd)} {B : Nat} (h : ∀ l ∈ L, ∀ x ∈ l, x.words.length ≤ B) : ∀ x ∈ L.flatten, x.words.length ≤ B := fun x hx => by
  obtain ⟨l, hl, hx⟩ := List.mem_flatten.1 hx
  exact h l hl x hx
theorem kidsW_cuts {l : List Nd} {e : Nat} (he : e ≤ l.length) : ∀ (m a : Nat), e - a < m → a ≤ e → rowsB l a e = true → ((kidsW l a e).map fun k => cutL l k (k + szI l k.toNat)).flatten = cutL l a e
  | 0, _, h, _, _ => by omega
  | m + 1, a, h, hae, hr => by
    by_cases h0 : a = e
    · subst h0; rw [kidsW_nil (Nat.le_refl _)]; simp [cutL]
    · have hlt : a < e := by omega
      have hal : a < l.length := by omega
      obtain ⟨y1, y2⟩ := rowsB_ends he hr (Nat.le_refl a) hlt
      obtain ⟨hr2, _⟩ := rowsB_next he hr hlt
      have hse := szI_eq hal
      rw [kidsW_cons hlt hal (by omega), ← hse, List.map_cons, List.flatten_cons, kidsW_cuts he m (a + (szI l a).toNat) (by omega) (by omega) hr2]
      simp only [cutL,Int.toNat_natCast]
      have e1 : ((a : Int) + szI l a).toNat - a = (szI l a).toNat := by omega
      rw [e1]
      have e2 : e - a = (szI l a).toNat + (e - (a + (szI l a).toNat)) := by omega
      rw [e2, List.take_add, List.drop_drop]
theorem treesR_flat {l : List Nd} (hb : isB l = true) : (treesR l).flatten = l := by
  have hrows : rowsB l 0 l.length = true := by simp only [isB,Bool.and_eq_true] at hb; exact hb.2
  rw [treesR, kidsR_top hb]
  have := kidsW_cuts (Nat.le_refl _) (l.length + 1) 0 (by omega) (by omega) hrows
  rw [this]
  simp [cutL]
theorem flatten_take_le {L : List (List Nd)} (n : Nat) : (L.take n).flatten.length ≤ L.flatten.length := by
  conv => rhs; rw [← List.take_append_drop n L, List.flatten_append, List.length_append]
  omega
theorem flatten_drop_le {L : List (List Nd)} (n : Nat) : (L.drop n).flatten.length ≤ L.flatten.length := by
  conv => rhs; rw [← List.take_append_drop n L, List.flatten_append, List.length_append]
  omega
set_option maxRecDepth 100000 in
theorem between_c (a b : List Nd) (ha : Hlf a) (hb : Hlf b) : PFun Try.prog 16 [encNs a, encNs b] (.tup [encE (betweenR a b), .int .i64 (if isB a && isB b then 0 else 4)]) := fun σ => by
  have ha1 := ha.1
  have hb1 := hb.1
  obtain ⟨res, hres⟩ : ∃ v, v = encE (betweenR a b) := ⟨_, rfl⟩
  rw [← hres]
  refine Contract.of_runs Try.func16 e16 k16 (by simp [c16]) ?_
  refine Runs.mix 12 ?_
  (refine Runs.of_step Orc.nothing 300 ?_; simp -implicitDefEqProofs only [BB,seval,← decide_not,okind,vpre,vpure,intBin,intPre,strBin,strPre,popTo,argSlots,fldV,fldAV,subCells,idxVV,idxAAV,idxSV,sliceV,sliceSV,boundV,szIs,storeOp,storeS,setRowV,eff,extV,buildV,splice,eqSV,fitsL,eqCells,eqCell,minmaxV,capV,binBV,nilCheckV,bytesV,V.cells,V.stays,Orc.nothing,c16])
  refine effR_new fun id1 σ1 s1 a1 f1 => ?_
  simp -implicitDefEqProofs only [BB,seval,← decide_not,okind,vpre,vpure,intBin,intPre,strBin,strPre,popTo,argSlots,fldV,fldAV,subCells,idxVV,idxAAV,idxSV,sliceV,sliceSV,boundV,szIs,storeOp,storeS,setRowV,eff,extV,buildV,splice,eqSV,fitsL,eqCells,eqCell,minmaxV,capV,binBV,nilCheckV,bytesV,V.cells,V.stays,a1]
  refine Runs.pcall rfl rfl rfl (isv_c a ha.sml.fine _) ?_
  have hzero : (isB a && isB b) = false → RetV (.tup [.agg [.int .i64 0, .int .i64 0, .int .i64 0, .int .i64 0, .nils, .int .i64 0, .int .i64 0, .int .i64 0, .int .i64 0, .int .i64 0, .int .i64 0, .int .i64 0, .int .i64 0, .int .i64 0, .int .i64 0, .int .i64 0, .int .i64 0], .int .i64 4])
      (upd σ1 id1 ⟨26, 17, [.agg [.int .i64 0, .int .i64 0, .int .i64 0, .int .i64 0, .nils, .int .i64 0, .int .i64 0, .int .i64 0, .int .i64 0, .int .i64 0, .int .i64 0, .int .i64 0, .int .i64 0, .int .i64 0, .int .i64 0, .int .i64 0, .int .i64 0]]⟩)
      fun r σ' => r = .tup [res, .int .i64 (if (isB a && isB b) = true then 0 else 4)] ∧ σ' = σ := fun h => by
    have hr : betweenR a b = Ed.zero := by rw [betweenR, h]; rfl
    rw [hr] at hres
    have hsf := s1.updK f1 (o := ⟨26, 17, [.agg [.int .i64 0, .int .i64 0, .int .i64 0, .int .i64 0, .nils, .int .i64 0, .int .i64 0, .int .i64 0, .int .i64 0, .int .i64 0, .int .i64 0, .int .i64 0, .int .i64 0, .int .i64 0, .int .i64 0, .int .i64 0, .int .i64 0]]⟩)
    refine ⟨.tup [encE Ed.zero, .int .i64 4], σ, hsf, Wk.tup ?_, by rw [hres, h]; rfl, rfl⟩
    simp only [WkL]
    exact ⟨wk_edN hsf 0 0 0 0 Sty.zero, Wk.refl hsf _, trivial⟩
  cases hba : isB a
  · (refine Runs.of_step Orc.nothing 300 ?_; simp -implicitDefEqProofs only [BB,seval,← decide_not,okind,vpre,vpure,intBin,intPre,strBin,strPre,popTo,argSlots,fldV,fldAV,subCells,idxVV,idxAAV,idxSV,sliceV,sliceSV,boundV,szIs,storeOp,storeS,setRowV,eff,extV,buildV,splice,eqSV,fitsL,eqCells,eqCell,minmaxV,capV,binBV,nilCheckV,bytesV,Orc.nothing,a1,V.cells_agg,V.cells_int,V.cells_nils,V.cells_own,V.cells_sl,V.cells_str,V.cells_bool,V.cells_fn,V.cells_ptr,V.cells_rp,V.stays_agg,V.stays_int,V.stays_nils,V.stays_own,V.stays_sl,V.stays_str,V.stays_bool,V.stays_fn,V.stays_ptr,V.stays_rp])
    rw [hba] at hzero
    exact hzero rfl
  · (refine Runs.of_step Orc.nothing 300 ?_; simp -implicitDefEqProofs only [BB,seval,← decide_not,okind,vpre,vpure,intBin,intPre,strBin,strPre,popTo,argSlots,fldV,fldAV,subCells,idxVV,idxAAV,idxSV,sliceV,sliceSV,boundV,szIs,storeOp,storeS,setRowV,eff,extV,buildV,splice,eqSV,fitsL,eqCells,eqCell,minmaxV,capV,binBV,nilCheckV,bytesV,Orc.nothing,a1,V.cells_agg,V.cells_int,V.cells_nils,V.cells_own,V.cells_sl,V.cells_str,V.cells_bool,V.cells_fn,V.cells_ptr,V.cells_rp,V.stays_agg,V.stays_int,V.stays_nils,V.stays_own,V.stays_sl,V.stays_str,V.stays_bool,V.stays_fn,V.stays_ptr,V.stays_rp])
    refine Runs.pcall rfl rfl rfl (isv_c b hb.sml.fine _) ?_
    rw [hba] at hzero
    cases hbb : isB b
    · (refine Runs.of_step Orc.nothing 300 ?_; simp -implicitDefEqProofs only [BB,seval,← decide_not,okind,vpre,vpure,intBin,intPre,strBin,strPre,popTo,argSlots,fldV,fldAV,subCells,idxVV,idxAAV,idxSV,sliceV,sliceSV,boundV,szIs,storeOp,storeS,setRowV,eff,extV,buildV,splice,eqSV,fitsL,eqCells,eqCell,minmaxV,capV,binBV,nilCheckV,bytesV,Orc.nothing,a1,V.cells_agg,V.cells_int,V.cells_nils,V.cells_own,V.cells_sl,V.cells_str,V.cells_bool,V.cells_fn,V.cells_ptr,V.cells_rp,V.stays_agg,V.stays_int,V.stays_nils,V.stays_own,V.stays_sl,V.stays_str,V.stays_bool,V.stays_fn,V.stays_ptr,V.stays_rp])
      rw [hbb] at hzero
      exact hzero rfl
    · (refine Runs.of_step Orc.nothing 300 ?_; simp -implicitDefEqProofs only [BB,seval,← decide_not,okind,vpre,vpure,intBin,intPre,strBin,strPre,popTo,argSlots,fldV,fldAV,subCells,idxVV,idxAAV,idxSV,sliceV,sliceSV,boundV,szIs,storeOp,storeS,setRowV,eff,extV,buildV,splice,eqSV,fitsL,eqCells,eqCell,minmaxV,capV,binBV,nilCheckV,bytesV,Orc.nothing,a1,V.cells_agg,V.cells_int,V.cells_nils,V.cells_own,V.cells_sl,V.cells_str,V.cells_bool,V.cells_fn,V.cells_ptr,V.cells_rp,V.stays_agg,V.stays_int,V.stays_nils,V.stays_own,V.stays_sl,V.stays_str,V.stays_bool,V.stays_fn,V.stays_ptr,V.stays_rp])
      have hr : betweenR a b = betweenC a b := by rw [betweenR, hba, hbb]; rfl
      rw [hr] at hres
      refine Runs.pcall rfl rfl rfl (trees_c a ha.sml.fine hba _) ?_
      (refine Runs.of_step Orc.nothing 300 ?_; simp -implicitDefEqProofs only [BB,seval,← decide_not,okind,vpre,vpure,intBin,intPre,strBin,strPre,popTo,argSlots,fldV,fldAV,subCells,idxVV,idxAAV,idxSV,sliceV,sliceSV,boundV,szIs,storeOp,storeS,setRowV,eff,extV,buildV,splice,eqSV,fitsL,eqCells,eqCell,minmaxV,capV,binBV,nilCheckV,bytesV,V.cells,V.stays,Orc.nothing,a1])
      refine Runs.pcall rfl rfl rfl (trees_c b hb.sml.fine hbb _) ?_
      (refine Runs.of_step Orc.nothing 300 ?_; simp -implicitDefEqProofs only [BB,seval,← decide_not,okind,vpre,vpure,intBin,intPre,strBin,strPre,popTo,argSlots,fldV,fldAV,subCells,idxVV,idxAAV,idxSV,sliceV,sliceSV,boundV,szIs,storeOp,storeS,setRowV,eff,extV,buildV,splice,eqSV,fitsL,eqCells,eqCell,minmaxV,capV,binBV,nilCheckV,bytesV,V.cells,V.stays,Orc.nothing,a1])
      have fx := treesR_flat hba
      have fy := treesR_flat hbb
      have lx := treesR_len a
      have ly := treesR_len b
      have mx : ∀ t ∈ treesR a, t.length ≤ 5000 ∧ ∀ x ∈ t, x.words.length ≤ 1000000000 := fun t ht => ⟨by have := (treesR_mem ht).1; omega, fun x hx => ha.2 x ((treesR_mem ht).2 x hx)⟩
      have my : ∀ t ∈ treesR b, t.length ≤ 5000 ∧ ∀ x ∈ t, x.words.length ≤ 1000000000 := fun t ht => ⟨by have := (treesR_mem ht).1; omega, fun x hx => hb.2 x ((treesR_mem ht).2 x hx)⟩
      unfold betweenC at hres
      simp only at hres
      generalize treesR a = x at *
      generalize treesR b = y at *
      have fine : ∀ (L : List (List Nd)) (k : Nat), (∀ t ∈ L, t.length ≤ 5000 ∧ ∀ x ∈ t, x.words.length ≤ 1000000000) → Fine ((L[k]?).getD []) := fun L k hL => by
        cases h : L[k]? with
        | none => exact ⟨by simp, by simp⟩
        | some t => have := hL t (List.mem_of_getElem? h); exact ⟨by simp; omega, fun z hz => by have := this.2 z (by simpa using hz); omega⟩
      refine Runs.pcall rfl rfl rfl (alike_c tellF 36 x y (by omega) (by omega) tellF_c (fun k _ => fine x k mx) (fun k _ => fine y k my) _) ?_
      have hle := alikeR_le tellF x y
      generalize alikeR tellF x y = first at *
      have hsl1 := fun σ => sliceT_pre (σ := σ) (L := x) (s := first) (by omega) (by omega)
      have hsl2 := fun σ => sliceT_from (σ := σ) (L := x) (s := first) (by omega) (by omega)
      have hsl3 := fun σ => sliceT_from (σ := σ) (L := y) (s := first) (by omega) (by omega)
      simp only [Int.toNat_natCast] at hsl1 hsl2 hsl3
      (refine Runs.of_step Orc.nothing 300 ?_; simp -implicitDefEqProofs only [BB,seval,← decide_not,okind,vpre,vpure,intBin,intPre,strBin,strPre,popTo,argSlots,fldV,fldAV,subCells,idxVV,idxAAV,idxSV,sliceSV,boundV,szIs,storeOp,storeS,setRowV,eff,extV,buildV,splice,eqSV,fitsL,eqCells,eqCell,minmaxV,capV,binBV,nilCheckV,bytesV,V.cells,V.stays,Orc.nothing,a1,hsl1])
      have hcx := concat_c (x.take first) (by simp; omega) (fun t ht => by have := (mx t (List.mem_of_mem_take ht)).1; omega)
      refine Runs.pcall rfl rfl rfl (hcx _) ?_
      (refine Runs.of_step Orc.nothing 300 ?_; simp -implicitDefEqProofs only [BB,seval,← decide_not,okind,vpre,vpure,intBin,intPre,strBin,strPre,popTo,argSlots,fldV,fldAV,subCells,idxVV,idxAAV,idxSV,sliceSV,boundV,szIs,storeOp,storeS,setRowV,eff,extV,buildV,splice,eqSV,fitsL,eqCells,eqCell,minmaxV,capV,binBV,nilCheckV,bytesV,V.cells,V.stays,Orc.nothing,a1,hsl2,hsl3,lenV_encNs])
      have mx2 := fun t (ht : t ∈ x.drop first) => mx t (List.mem_of_mem_drop ht)
      have my2 := fun t (ht : t ∈ y.drop first) => my t (List.mem_of_mem_drop ht)
      refine Runs.pcall rfl rfl rfl (alike_c tellL 38 (x.drop first) (y.drop first) (by simp; omega) (by simp; omega) tellL_c (fun k _ => fine _ _ mx2) (fun k _ => fine _ _ my2) _) ?_
      have hle2 := alikeR_le tellL (x.drop first) (y.drop first)
      generalize alikeR tellL (x.drop first) (y.drop first) = last at *
      have hly : (y.drop first).length ≤ 5000 := by simp; omega
      have hlx : (x.drop first).length ≤ 5000 := by simp; omega
      have hfy := flatten_drop_le (L := y) first
      generalize hxg : x.drop first = x2 at *
      generalize hyg : y.drop first = y2 at *
      have e1 : (y2.length : Int) - last = ((y2.length - last : Nat) : Int) := by omega
      have hsl4 := fun σ => sliceT_pre (σ := σ) (L := y2) (s := (y2.length : Int) - last) (by omega) (by omega)
      have e2 : ((y2.length : Int) - last).toNat = y2.length - last := by omega
      rw [e2] at hsl4
      (refine Runs.of_step Orc.nothing 300 ?_; simp -implicitDefEqProofs only [BB,seval,← decide_not,okind,vpre,vpure,intBin,intPre,strBin,strPre,popTo,argSlots,fldV,fldAV,subCells,idxVV,idxAAV,idxSV,sliceSV,boundV,szIs,storeOp,storeS,setRowV,eff,extV,buildV,splice,eqSV,fitsL,eqCells,eqCell,minmaxV,capV,binBV,nilCheckV,bytesV,V.cells,V.stays,Orc.nothing,a1,lenV_encT,hsl4])
      refine ⟨inR_i64 (by omega) (by omega), ?_⟩
      have hcy := concat_c (y2.take (y2.length - last)) (by simp; omega) (fun t ht => by have := (my2 t (List.mem_of_mem_take ht)).1; omega)
      refine Runs.pcall rfl rfl rfl (hcy _) ?_
      (refine Runs.of_step Orc.nothing 300 ?_; simp -implicitDefEqProofs only [BB,seval,← decide_not,okind,vpre,vpure,intBin,intPre,strBin,strPre,popTo,argSlots,fldV,fldAV,subCells,idxVV,idxAAV,idxSV,sliceV,sliceSV,boundV,szIs,storeOp,storeS,setRowV,eff,extV,buildV,splice,eqSV,fitsL,eqCells,eqCell,minmaxV,capV,binBV,nilCheckV,bytesV,V.cells,V.stays,Orc.nothing,a1,lenV_encT])
      refine ⟨inR_i64 (by omega) (by omega), ?_⟩
      have hsub : Sml (y2.take (y2.length - last)).flatten := ⟨by have := flatten_take_le (L := y2) (y2.length - last); rw [fy] at hfy; omega, flatten_words fun t ht => (my2 t (List.mem_of_mem_take ht)).2⟩
      refine Runs.pcall rfl rfl rfl (own9_c _ hsub _) ?_
      have hsb : ∀ (p m : Int) (s : List Nd), buildV [.int .i64 0, .int .i64 0, .int .i64 0, .int .i64 0, .nils, .int .i64 0, .int .i64 0, .int .i64 0, .int .i64 0, .int .i64 0, .int .i64 0, .int .i64 0, .int .i64 0, .int .i64 0, .int .i64 0, .int .i64 0, .int .i64 0]
          [(0, 1, .int .i64 1), (1, 1, .int .i64 (-1)), (2, 1, .int .i64 p), (3, 1, .int .i64 m), (4, 1, encNs s)] = some [.int .i64 1, .int .i64 (-1), .int .i64 p, .int .i64 m, encNs s, .int .i64 0, .int .i64 0, .int .i64 0, .int .i64 0, .int .i64 0, .int .i64 0, .int .i64 0, .int .i64 0, .int .i64 0, .int .i64 0, .int .i64 0, .int .i64 0] := fun _ _ _ => rfl
      (refine Runs.of_step Orc.nothing 300 ?_; simp -implicitDefEqProofs only [BB,seval,← decide_not,okind,vpre,vpure,intBin,intPre,strBin,strPre,popTo,argSlots,fldV,fldAV,subCells,idxVV,idxAAV,idxSV,sliceV,sliceSV,boundV,szIs,storeOp,storeS,setRowV,eff,extV,splice,eqSV,fitsL,eqCells,eqCell,minmaxV,capV,binBV,nilCheckV,bytesV,Orc.nothing,a1,encNs_cells,encNs_stays,V.cells_agg,V.cells_int,V.cells_nils,V.cells_own,V.cells_sl,V.cells_str,V.cells_bool,V.cells_fn,V.cells_ptr,V.cells_rp,V.stays_agg,V.stays_int,V.stays_nils,V.stays_own,V.stays_sl,V.stays_str,V.stays_bool,V.stays_fn,V.stays_ptr,V.stays_rp,hsb])
      exact RetV.pure (s1.updK f1) (by rw [hres]; rfl)
end Go.Vc
namespace Go.Vc
open Go.Proofs
section
variable {P : Program} {n : Nat} {st : St} {Q : St → Prop} {k : List It}
theorem cop_bin {o : Op} {op : BinOp} {x y : VX} (h : cop P n o = .bin op x y) : ∃ t x0 y0 yt, o = .binOp op t x0 y0 yt ∧ cx n x0 = x ∧ cx n y0 = y := by
  cases o
  case binOp op' t x0 y0 yt =>
    simp only [cop,nilB] at h
    split at h
    · split at h <;> cases h
    · split at h
      · split at h <;> cases h
      · cases h
    · split at h
      · split at h <;> cases h
      · split at h
        · split at h <;> cases h
        · split at h
          · split at h <;> cases h
          · simp only [VOp.bin.injEq] at h
            obtain ⟨rfl, h2, h3⟩ := h
            exact ⟨t, x0, y0, yt, rfl, h2, h3⟩
  case call c =>
    obtain ⟨callee, args, argTypes⟩ := c
    cases callee
    case builtin b => cases b <;> simp only [cop,nilB] at h <;> (repeat' split at h) <;> cases h
    all_goals (simp only [cop,nilB] at h; cases h)
  case unOp op t x => cases op <;> simp only [cop,nilB] at h <;> cases h
  case makeFunc f a b => cases f <;> simp only [cop,nilB] at h <;> (repeat' split at h) <;> cases h
  all_goals (simp only [cop,nilB] at h; (repeat' split at h) <;> cases h)
theorem Runs.addW {i : VIns} {l : List VIns} {x y : VX} {kk : IntKind} {a b : Int} (hw : wantV st.s i.g = some true) (ho : i.op = .bin .add x y) (hx : x.ev st.s = .int kk a) (hy : y.ev st.s = .int kk b)
    (h : Runs P n (.ops l :: k) ⟨putO st.s i.dst (.int kk (kk.wrap (a + b))), st.σ⟩ Q) : Runs P n (.ops (i :: l) :: k) st Q := by
  refine Runs.ins (by rw [ho]; simp) hw fun F hn μ act w o all hi hs next Q' hnext => ?_
  subst hn
  obtain ⟨hop, hd⟩ := cins_op hi
  rw [ho] at hop
  obtain ⟨t, x0, y0, yt, g1, rfl, rfl⟩ := cop_bin hop
  have ex : act.eval x0 = .int kk a := by
    have := rep_cx hs x0
    rw [hx] at this
    simpa [Rep] using this
  have ey : act.eval y0 = .int kk b := by
    have := rep_cx hs y0
    rw [hy] at this
    simpa [Rep] using this
  have hrun : (execOp act.eval o).run P w = .ok (.value (.int kk (kk.wrap (a + b)))) w := by
    unfold execOp
    rw [g1]
    simp [ex, ey, eqGuard, binOp, Op.intArith]
  unfold Oper.wp
  rw [hrun]
  refine hnext _ _ _ ⟨μ, ?_⟩ h
  have := hs.pure (d := o.dst) (v := .int kk (kk.wrap (a + b))) (x := .int kk (kk.wrap (a + b))) (by simp [Rep])
  rw [← hd]
  exact this
end
def wsum (l : List Nd) : Nat := (l.map fun x => x.words.length).sum
def vastR (l : List Nd) : Bool := decide (40 < l.length) || decide (200 < wsum l)
theorem wsum_take {l : List Nd} {i : Nat} (h : i < l.length) : wsum (l.take (i + 1)) = wsum (l.take i) + l[i].words.length := by
  rw [wsum, List.take_succ_eq_append_getElem h, List.map_append, List.sum_append]
  simp [wsum]
theorem wsum_le {l : List Nd} {B : Nat} (h : ∀ x ∈ l, x.words.length ≤ B) : wsum l ≤ l.length * B := by
  induction l with
  | nil => simp [wsum]
  | cons x l ih =>
    have h1 := h x (by simp)
    have h2 := ih fun y hy => h y (by simp [hy])
    simp only [wsum,List.map_cons,List.sum_cons,List.length_cons,Nat.add_mul] at h2 ⊢
    omega
theorem wsum_mem {l : List Nd} {x : Nd} (h : x ∈ l) : x.words.length ≤ wsum l := by
  induction l with
  | nil => simp at h
  | cons y l ih =>
    simp only [wsum,List.map_cons,List.sum_cons]
    rcases List.mem_cons.1 h with rfl | h
    · omega
    · have := ih h; simp only [wsum] at this; omega
theorem vastR_len {l : List Nd} (h : vastR l = false) : Len 40 l := by
  simp only [vastR,Bool.or_eq_false_iff,decide_eq_false_iff_not] at h
  exact ⟨by omega, fun x hx => by have := wsum_mem hx; omega⟩
set_option maxRecDepth 100000 in
theorem vast_c (l : List Nd) (hlen : l.length ≤ 1000000000000) (hw : ∀ x ∈ l, x.words.length ≤ 200000000000000) : PFun Try.prog 4 [encNs l] (.bool (vastR l)) := fun σ => by
  refine Contract.of_runs Try.func4 e4 k4 (by simp [c4]) ?_
  refine Runs.mix 5 ?_
  (refine Runs.of_step Orc.nothing 300 ?_; simp -implicitDefEqProofs only [BB,seval,← decide_not,okind,vpre,vpure,intBin,intPre,strBin,strPre,popTo,argSlots,fldV,fldAV,subCells,idxVV,idxAAV,idxSV,sliceV,sliceSV,boundV,szIs,storeOp,storeS,setRowV,eff,extV,buildV,splice,eqSV,fitsL,eqCells,eqCell,minmaxV,capV,binBV,nilCheckV,bytesV,V.cells,V.stays,Orc.nothing,c4])
  refine Runs.loop (fun m st => ∃ (i : Nat) (c : Int), i ≤ l.length ∧ m = l.length - i ∧ st.σ = σ ∧ st.s 0 = encNs l ∧ st.s 3 = vI c ∧ (l.length ≤ 40 → c = wsum (l.take i)) ∧ st.s 4 = vI i) l.length ?_ ?_
  · exact ⟨0, 0, by omega, by omega, rfl, rfl, rfl, fun _ => by simp [wsum], rfl⟩
  · rintro m ⟨s, σ'⟩ ⟨i, c, hi, rfl, hσ, h0, h3, hc, h4⟩
    simp only at hσ h0 h3 h4
    subst hσ
    refine Runs.mix 5 ?_
    by_cases hlt : (i : Int) < l.length
    · have hil : i < l.length := by omega
      have hwi := hw _ (List.getElem_mem hil)
      have hws := wsum_take hil
      have hdt : decide ((i : Int) < l.length) = true := decide_eq_true hlt
      (refine Runs.of_step Orc.nothing 20 ?_; simp -implicitDefEqProofs only [BB,seval,← decide_not,okind,vpre,vpure,intBin,intPre,strBin,strPre,popTo,argSlots,fldV,fldAV,subCells,idxVV,idxAAV,idxSV,sliceV,sliceSV,boundV,szIs,storeOp,storeS,setRowV,eff,extV,buildV,splice,eqSV,fitsL,eqCells,eqCell,minmaxV,capV,binBV,nilCheckV,bytesV,V.cells,V.stays,s_zero,Orc.nothing,h0,h3,h4,lenV_encNs,hlt,hdt,idxAV_encNs hil,Nd.cells,lenV_encI,loadV_rp_encI])
      refine Runs.addW rfl rfl rfl rfl ?_
      by_cases h40 : l.length ≤ 40
      · have hc' := hc h40
        have hwr : IntKind.i64.wrap (c + (l[i].words.length : Int)) = c + l[i].words.length := by
          have hsum := wsum_le (l := l.take i) (B := 200000000000000) (fun x hx => hw x (List.mem_of_mem_take hx))
          have : (l.take i).length ≤ 40 := by simp; omega
          have : wsum (l.take i) ≤ 40 * 200000000000000 := Nat.le_trans hsum (Nat.mul_le_mul_right _ this)
          rw [IntKind.wrap_i64]; omega
        rw [hwr]
        (refine Runs.of_step Orc.nothing 300 ?_; simp -implicitDefEqProofs only [BB,seval,← decide_not,okind,vpre,vpure,intBin,intPre,strBin,strPre,popTo,argSlots,fldV,fldAV,subCells,idxVV,idxAAV,idxSV,sliceV,sliceSV,boundV,szIs,storeOp,storeS,setRowV,eff,extV,buildV,splice,eqSV,fitsL,eqCells,eqCell,minmaxV,capV,binBV,nilCheckV,bytesV,V.cells,V.stays,Orc.nothing,h0,h4])
        refine ⟨inR_i64 (by omega) (by omega), _, ?_, i + 1, _, by omega, rfl, rfl, ?_, ?_⟩
        · omega
        · intro _; rw [hws, hc']; omega
        · simp
      · (refine Runs.of_step Orc.nothing 300 ?_; simp -implicitDefEqProofs only [BB,seval,← decide_not,okind,vpre,vpure,intBin,intPre,strBin,strPre,popTo,argSlots,fldV,fldAV,subCells,idxVV,idxAAV,idxSV,sliceV,sliceSV,boundV,szIs,storeOp,storeS,setRowV,eff,extV,buildV,splice,eqSV,fitsL,eqCells,eqCell,minmaxV,capV,binBV,nilCheckV,bytesV,V.cells,V.stays,Orc.nothing,h0,h4])
        refine ⟨inR_i64 (by omega) (by omega), _, ?_, i + 1, _, by omega, rfl, rfl, ?_, ?_⟩
        · omega
        · intro h; omega
        · simp
    · have hie : i = l.length := by omega
      subst hie
      rw [List.take_length] at hc
      have hlt2 : ¬ ((l.length : Int) < l.length) := by omega
      (refine Runs.of_step Orc.nothing 300 ?_; simp -implicitDefEqProofs only [BB,seval,← decide_not,okind,vpre,vpure,intBin,intPre,strBin,strPre,popTo,argSlots,fldV,fldAV,subCells,idxVV,idxAAV,idxSV,sliceV,sliceSV,boundV,szIs,storeOp,storeS,setRowV,eff,extV,buildV,splice,eqSV,fitsL,eqCells,eqCell,minmaxV,capV,binBV,nilCheckV,bytesV,V.cells,V.stays,Orc.nothing,h0,h3,h4,lenV_encNs,hlt2])
      refine And.intro (fun h => ?_) (fun h => ?_)
      · refine RetV.same ?_
        rw [hc (by omega), vastR]
        have h1 : decide (40 < l.length) = false := decide_eq_false (by omega)
        rw [h1, Bool.false_or, V.bool.injEq, Bool.eq_iff_iff, decide_eq_true_eq, decide_eq_true_eq]
        omega
      · refine RetV.same ?_
        have h1 : decide (40 < l.length) = true := decide_eq_true (by omega)
        rw [vastR, h1, Bool.true_or]
end Go.Vc
namespace Go.Vc
def fzLB (g : V → V → Bool) : List V → List V → Bool
  | [], [] => true
  | v :: vs, u :: us => g v u && fzLB g vs us
  | _, _ => false
def fzB : Nat → Tr (Option Ob) → V → V → Bool
  | 0, _, _, _ => false
  | f + 1, σ, v, u => match v with
    | .own id off len => match u with
      | .sl sz rows => match getP none id σ with
        | some ob => Nat.beq ob.sz sz && (Nat.ble (off + len) ob.rows.length && fzLB (fzB f σ) ((ob.rows.drop off).take len) rows)
        | none => false
      | _ => false
    | .nils => match u with
      | .sl _ rows => rows.isEmpty
      | .nils => true
      | _ => false
    | .sl sz rows => match u with
      | .sl sz' rows' => Nat.beq sz sz' && fzLB (fzB f σ) rows rows'
      | _ => false
    | .agg cs => match u with
      | .agg ds => fzLB (fzB f σ) cs ds
      | _ => false
    | .tup cs => match u with
      | .tup ds => fzLB (fzB f σ) cs ds
      | _ => false
    | .int k n => match u with
      | .int k' n' => eqK k k' && eqQ n n'
      | _ => false
    | .bool b => match u with
      | .bool b' => b == b'
      | _ => false
    | .str b => match u with
      | .str b' => decide (b = b')
      | _ => false
    | .nilp => match u with
      | .nilp => true
      | _ => false
    | _ => false
theorem eqQ_iff {a b : Int} (h : eqQ a b = true) : a = b := by
  cases a <;> cases b <;> simp only [eqQ, Bool.false_eq_true] at h
  · rw [Nat.eq_of_beq_eq_true h]
  · rw [Nat.eq_of_beq_eq_true h]
theorem fzB_ok {R : Nat → Nat → Prop} {σt : Tr (Option Ob)} {σ : Store} (hm : Lv R (stF σt) σ) : ∀ (f : Nat) (v u v' : V), fzB f σt v v' = true → VRel R v u → Fz σ (fun a => ∃ c o, R c a ∧ stF σt c = some o) u v'
  | 0, _, _, _, h, _ => by simp [fzB] at h
  | f + 1, v, u, v', h, hr => by
    have hL : ∀ (vs us out : List V), fzLB (fzB f σt) vs out = true → VRelL R vs us → FzL σ (fun a => ∃ c o, R c a ∧ stF σt c = some o) us out := by
      intro vs
      induction vs with
      | nil =>
        intro us out h1 h2
        rw [VRelL.nil_iff] at h2; subst h2
        cases out with
        | nil => exact .nil
        | cons a b => simp [fzLB] at h1
      | cons a vs ih =>
        intro us out h1 h2
        obtain ⟨b, bs, rfl, h3, h4⟩ := VRelL.cons_iff.1 h2
        cases out with
        | nil => simp [fzLB] at h1
        | cons c cs =>
          simp only [fzLB, Bool.and_eq_true] at h1
          exact .cons _ _ _ _ (fzB_ok hm f _ _ _ h1.1 h3) (ih _ _ h1.2 h4)
    have hno : v.noid = true → v' = v → Fz σ (fun a => ∃ c o, R c a ∧ stF σt c = some o) u v' := fun h1 h2 => by
      have := noid_eq v u h1 hr
      rw [this, h2]
      exact .same v h1
    simp only [fzB] at h
    cases v <;> simp only [Bool.false_eq_true] at h
    case own id off len =>
      split at h
      · split at h
        · rename_i ob hob
          simp only [Bool.and_eq_true] at h
          obtain ⟨h1, h2, h3⟩ := h
          simp only [VRel] at hr
          obtain ⟨id', rfl, hR⟩ := hr
          obtain ⟨rows', g1, g2⟩ := hm _ id' ob hR hob
          have := hL _ _ _ h3 ((g2.drop _).take _)
          rw [← Nat.eq_of_beq_eq_true h1]
          exact .own id' _ _ ⟨ob.elem, ob.sz, rows'⟩ _ g1 ⟨_, ob, hR, hob⟩ (by rw [g2.length]; exact Nat.le_of_ble_eq_true h2) this
        · cases h
      · cases h
    case nils =>
      split at h
      · rename_i sz rows
        simp only [VRel] at hr; subst hr
        have : rows = [] := by simpa using h
        subst this
        exact .nil _
      · exact hno rfl rfl
      · cases h
    case sl sz rows =>
      split at h
      · simp only [Bool.and_eq_true] at h
        simp only [VRel] at hr
        obtain ⟨rows', rfl, hr⟩ := hr
        rw [← Nat.eq_of_beq_eq_true h.1]
        exact .sl _ _ _ (hL _ _ _ h.2 hr)
      · cases h
    case agg cs =>
      split at h
      · simp only [VRel] at hr
        obtain ⟨es, rfl, hr⟩ := hr
        exact .agg _ _ (hL _ _ _ h hr)
      · cases h
    case tup cs =>
      split at h
      · simp only [VRel] at hr
        obtain ⟨es, rfl, hr⟩ := hr
        exact .tup _ _ (hL _ _ _ h hr)
      · cases h
    case int k n =>
      split at h
      · simp only [Bool.and_eq_true] at h
        refine hno rfl ?_
        rw [eqQ_iff h.2, of_decide_eq_true h.1]
      · cases h
    case bool b =>
      split at h
      · refine hno rfl ?_
        rw [eq_of_beq h]
      · cases h
    case str b =>
      split at h
      · refine hno rfl ?_
        rw [of_decide_eq_true h]
      · cases h
    case nilp =>
      split at h
      · exact hno rfl rfl
      · cases h
def evTopF (code : FuncId → Option VFn) (fuel : Nat) (f : FuncId) (args : List V) (v : V) : Bool := match evF (evL code fuel) code f args .e 0 0 with
  | some r => fzB 10 r.σ r.v v
  | none => false
theorem PFun.of_evF {P : Program} {code : FuncId → Option VFn} (hcode : CodeOk P code) {fuel : Nat} {f : FuncId} {args : List V} {v : V} (ha : noidL args = true)
    (h : evTopF code fuel f args v = true) : PFun P f args v := by
  intro σ
  unfold evTopF at h
  split at h
  · rename_i r hr
    have hm : MRel σ 0 (fun _ _ => False) (stF .e) 0 σ := ⟨fun _ _ h => h.elim, fun _ _ _ h => h.elim, fun _ _ _ _ _ h => h.elim, fun _ _ _ _ h => h.elim, SubStore.refl σ, fun _ _ _ _ _ h => h.elim⟩
    refine (call_ok hcode (evL_ok hcode fuel) f args .e 0 0 r hr σ _ σ args hm (noidL_refl args ha)).weak ?_
    rintro u σ' ⟨R', _, h1, h2⟩
    refine ⟨v, σ, h2.keep, (fzB_ok h2.live 10 r.v u v h h1).wk h2.keep ?_, rfl, rfl⟩
    rintro a ⟨c, o, hc, ho⟩
    cases hk : σ a with
    | none => rfl
    | some x => have := h2.kfl a x c o hk hc ho; omega
  · cases h
end Go.Vc
namespace Go.Vc
open Go.Proofs
def mono (w h : Int) : Nd := ⟨3, 1, Sty.zero, 0, 0, [], 0, w, h⟩
def plain36 : Sty := ⟨0, 0, 0, 0, 0, 2, 2, 0, 0, 0, 0, 0⟩
def blk (n : Int) : Nd := ⟨1, n, plain36, 0, 0, [], 0, 0, 0⟩
def s123 : List UInt8 := [123, 49, 32, 49, 125, 123, 50, 32, 50, 125, 123, 51, 32, 51, 125]
def s45 : List UInt8 := [123, 52, 32, 52, 125, 123, 53, 32, 53, 125]
def s13 : List UInt8 := [123, 49, 32, 49, 125, 123, 51, 32, 51, 125]
def s1453 : List UInt8 := [123, 49, 32, 49, 125, 123, 52, 32, 52, 125, 123, 53, 32, 53, 125, 123, 51, 32, 51, 125]
def s2 : List UInt8 := [123, 50, 32, 50, 125]
def sb1 : List UInt8 := [91, 123, 49, 32, 49, 125, 93]
def sb12 : List UInt8 := [91, 123, 49, 32, 49, 125, 123, 50, 32, 50, 125, 93]
theorem of123 : PFun Try.prog 14 [.str s123] (encNs [mono 1 1, mono 2 2, mono 3 3]) := PFun.of_evF (fuel := 1000) tabA_ok rfl (by kernel_rfl)
theorem of45 : PFun Try.prog 14 [.str s45] (encNs [mono 4 4, mono 5 5]) := PFun.of_evF (fuel := 1000) tabA_ok rfl (by kernel_rfl)
theorem of13 : PFun Try.prog 14 [.str s13] (encNs [mono 1 1, mono 3 3]) := PFun.of_evF (fuel := 1000) tabA_ok rfl (by kernel_rfl)
theorem of1453 : PFun Try.prog 14 [.str s1453] (encNs [mono 1 1, mono 4 4, mono 5 5, mono 3 3]) := PFun.of_evF (fuel := 1000) tabA_ok rfl (by kernel_rfl)
theorem of2 : PFun Try.prog 14 [.str s2] (encNs [mono 2 2]) := PFun.of_evF (fuel := 1000) tabA_ok rfl (by kernel_rfl)
theorem ofb1 : PFun Try.prog 14 [.str sb1] (encNs [blk 2, mono 1 1]) := PFun.of_evF (fuel := 1000) tabA_ok rfl (by kernel_rfl)
theorem ofb12 : PFun Try.prog 14 [.str sb12] (encNs [blk 3, mono 1 1, mono 2 2]) := PFun.of_evF (fuel := 1000) tabA_ok rfl (by kernel_rfl)
theorem of0 : PFun Try.prog 14 [.str []] (encNs []) := PFun.of_evF (fuel := 1000) tabA_ok rfl (by kernel_rfl)
theorem plain36_c : PFun Try.prog 19 [] (.agg plain36.cells) := PFun.of_evF (fuel := 1000) tabA_ok rfl (by kernel_rfl)
set_option maxRecDepth 100000 in
theorem swapS_c (s : List UInt8) (L : List Nd) (into p many : Int) (h : PFun Try.prog 14 [.str s] (encNs L)) : PFun Try.prog 15 [vI into, vI p, vI many, .str s] (encE ⟨1, into, p, many, L, Sty.zero⟩) := fun σ => by
  refine Contract.of_runs Try.func15 e15 k15 (by simp [c15]) ?_
  refine Runs.mix 9 ?_
  (refine Runs.of_step Orc.nothing 300 ?_; simp -implicitDefEqProofs only [BB,seval,← decide_not,okind,vpre,vpure,intBin,intPre,strBin,strPre,popTo,argSlots,fldV,fldAV,subCells,idxVV,idxAAV,idxSV,sliceV,sliceSV,boundV,szIs,storeOp,storeS,setRowV,eff,extV,buildV,splice,eqSV,fitsL,eqCells,eqCell,minmaxV,capV,binBV,nilCheckV,bytesV,V.cells,V.stays,Orc.nothing,c15])
  refine effR_new fun id1 σ1 s1 a1 f1 => ?_
  simp -implicitDefEqProofs only [BB,seval,← decide_not,okind,vpre,vpure,intBin,intPre,strBin,strPre,popTo,argSlots,fldV,fldAV,subCells,idxVV,idxAAV,idxSV,sliceV,sliceSV,boundV,szIs,storeOp,storeS,setRowV,eff,extV,buildV,splice,eqSV,fitsL,eqCells,eqCell,minmaxV,capV,binBV,nilCheckV,bytesV,V.cells,V.stays,a1]
  refine Runs.pcall rfl rfl rfl (h _) ?_
  have hsb : ∀ (i p m : Int) (s : List Nd), buildV [.int .i64 0, .int .i64 0, .int .i64 0, .int .i64 0, .nils, .int .i64 0, .int .i64 0, .int .i64 0, .int .i64 0, .int .i64 0, .int .i64 0, .int .i64 0, .int .i64 0, .int .i64 0, .int .i64 0, .int .i64 0, .int .i64 0]
      [(0, 1, .int .i64 1), (1, 1, vI i), (2, 1, vI p), (3, 1, vI m), (4, 1, encNs s)] = some [.int .i64 1, .int .i64 i, .int .i64 p, .int .i64 m, encNs s, .int .i64 0, .int .i64 0, .int .i64 0, .int .i64 0, .int .i64 0, .int .i64 0, .int .i64 0, .int .i64 0, .int .i64 0, .int .i64 0, .int .i64 0, .int .i64 0] := fun _ _ _ _ => rfl
  (refine Runs.of_step Orc.nothing 300 ?_; simp -implicitDefEqProofs only [BB,seval,← decide_not,okind,vpre,vpure,intBin,intPre,strBin,strPre,popTo,argSlots,fldV,fldAV,subCells,idxVV,idxAAV,idxSV,sliceV,sliceSV,boundV,szIs,storeOp,storeS,setRowV,eff,extV,splice,eqSV,fitsL,eqCells,eqCell,minmaxV,capV,binBV,nilCheckV,bytesV,Orc.nothing,a1,encNs_cells,encNs_stays,V.cells_agg,V.cells_int,V.cells_nils,V.cells_own,V.cells_sl,V.cells_str,V.cells_bool,V.cells_fn,V.cells_ptr,V.cells_rp,V.stays_agg,V.stays_int,V.stays_nils,V.stays_own,V.stays_sl,V.stays_str,V.stays_bool,V.stays_fn,V.stays_ptr,V.stays_rp,hsb])
  exact RetV.pure (s1.updK f1) rfl
end Go.Vc
namespace Go.Vc
open Go.Proofs
set_option maxRecDepth 100000 in
theorem does_c (s w : List UInt8) (L Lw : List Nd) (x : Ed) (h : PFun Try.prog 14 [.str s] (encNs L)) (hw : PFun Try.prog 14 [.str w] (encNs Lw)) (hl : Hlf L) (hx : Hlf x.sub) (hlw : Fine Lw) :
    PFun Try.prog 17 [.str s, encE x, .str w] (.bool (decide (doR L x = some Lw))) := fun σ => by
  have hdc := do_c L x hl hx
  refine Contract.of_runs Try.func17 e17 k17 (by simp [c17]) ?_
  refine Runs.mix 9 ?_
  obtain ⟨cs, hcs⟩ : ∃ v, v = encE x := ⟨_, rfl⟩
  have hcc : cs.cells.length = 17 := by rw [hcs]; rfl
  have hcst : cs.stays = true := by rw [hcs]; rfl
  have hcl : V.agg cs.cells = cs := by rw [hcs]; rfl
  rw [← hcs] at hdc ⊢
  (refine Runs.of_step Orc.nothing 300 ?_; simp -implicitDefEqProofs only [BB,seval,← decide_not,okind,vpre,vpure,intBin,intPre,strBin,strPre,popTo,argSlots,fldV,fldAV,subCells,idxVV,idxAAV,idxSV,sliceV,sliceSV,boundV,szIs,storeOp,storeS,setRowV,eff,extV,buildV,splice,eqSV,fitsL,eqCells,eqCell,minmaxV,capV,binBV,nilCheckV,bytesV,Orc.nothing,c17,hcc,hcst,V.cells_agg,V.cells_int,V.cells_nils,V.cells_own,V.cells_sl,V.cells_str,V.cells_bool,V.cells_fn,V.cells_ptr,V.cells_rp,V.stays_agg,V.stays_int,V.stays_nils,V.stays_own,V.stays_sl,V.stays_str,V.stays_bool,V.stays_fn,V.stays_ptr,V.stays_rp])
  refine effR_new fun id1 σ1 s1 a1 f1 => ?_
  simp -implicitDefEqProofs only [BB,seval,← decide_not,okind,vpre,vpure,intBin,intPre,strBin,strPre,popTo,argSlots,fldV,fldAV,subCells,idxVV,idxAAV,idxSV,sliceV,sliceSV,boundV,szIs,storeOp,storeS,setRowV,eff,extV,buildV,splice,eqSV,fitsL,eqCells,eqCell,minmaxV,capV,binBV,nilCheckV,bytesV,V.cells,V.stays,a1]
  refine Go.pcall rfl h ?_
  (refine Go.of_step Orc.nothing 300 _ _ ?_; simp -implicitDefEqProofs only [BB,seval,← decide_not,okind,vpre,vpure,intBin,intPre,strBin,strPre,popTo,argSlots,fldV,fldAV,subCells,idxVV,idxAAV,idxSV,sliceV,sliceSV,boundV,szIs,storeOp,storeS,setRowV,eff,extV,buildV,splice,eqSV,fitsL,eqCells,eqCell,minmaxV,capV,binBV,nilCheckV,bytesV,Orc.nothing,a1,hcc,hcl,V.cells_agg,V.cells_int,V.cells_nils,V.cells_own,V.cells_sl,V.cells_str,V.cells_bool,V.cells_fn,V.cells_ptr,V.cells_rp,V.stays_agg,V.stays_int,V.stays_nils,V.stays_own,V.stays_sl,V.stays_str,V.stays_bool,V.stays_fn,V.stays_ptr,V.stays_rp])
  refine Go.pcall rfl hdc ?_
  have hsml := fun out (ho : doR L x = some out) => (outR_sml hl (doR_some ho).1 hx (doR_some ho).2.2.1)
  cases hd : doR L x with
  | none =>
    (refine Go.of_step Orc.nothing 300 _ _ ?_; simp -implicitDefEqProofs only [BB,seval,← decide_not,okind,vpre,vpure,intBin,intPre,strBin,strPre,popTo,argSlots,fldV,fldAV,subCells,idxVV,idxAAV,idxSV,sliceV,sliceSV,boundV,szIs,storeOp,storeS,setRowV,eff,extV,buildV,splice,eqSV,fitsL,eqCells,eqCell,minmaxV,capV,binBV,nilCheckV,bytesV,V.cells,V.stays,Orc.nothing,errV,optV,Option.isSome_none,Option.getD_none])
    exact RetV.pure s1 (by simp)
  | some out =>
    (refine Go.of_step Orc.nothing 300 _ _ ?_; simp -implicitDefEqProofs only [BB,seval,← decide_not,okind,vpre,vpure,intBin,intPre,strBin,strPre,popTo,argSlots,fldV,fldAV,subCells,idxVV,idxAAV,idxSV,sliceV,sliceSV,boundV,szIs,storeOp,storeS,setRowV,eff,extV,buildV,splice,eqSV,fitsL,eqCells,eqCell,minmaxV,capV,binBV,nilCheckV,bytesV,V.cells,V.stays,Orc.nothing,errV,optV,Option.isSome_some,Option.getD_some])
    refine Runs.pcall rfl rfl rfl (hw _) ?_
    (refine Runs.of_step Orc.nothing 300 ?_; simp -implicitDefEqProofs only [BB,seval,← decide_not,okind,vpre,vpure,intBin,intPre,strBin,strPre,popTo,argSlots,fldV,fldAV,subCells,idxVV,idxAAV,idxSV,sliceV,sliceSV,boundV,szIs,storeOp,storeS,setRowV,eff,extV,buildV,splice,eqSV,fitsL,eqCells,eqCell,minmaxV,capV,binBV,nilCheckV,bytesV,V.cells,V.stays,Orc.nothing])
    refine Runs.pcall rfl rfl rfl (same5_c out Lw (hsml out hd).fine hlw _) ?_
    (refine Runs.of_step Orc.nothing 300 ?_; simp -implicitDefEqProofs only [BB,seval,← decide_not,okind,vpre,vpure,intBin,intPre,strBin,strPre,popTo,argSlots,fldV,fldAV,subCells,idxVV,idxAAV,idxSV,sliceV,sliceSV,boundV,szIs,storeOp,storeS,setRowV,eff,extV,buildV,splice,eqSV,fitsL,eqCells,eqCell,minmaxV,capV,binBV,nilCheckV,bytesV,V.cells,V.stays,Orc.nothing])
    exact RetV.pure s1 (by simp)
set_option maxRecDepth 100000 in
theorem none_c (s : List UInt8) (L : List Nd) (x : Ed) (h : PFun Try.prog 14 [.str s] (encNs L)) (hl : Hlf L) (hx : Hlf x.sub) (hd : doR L x = none) :
    PFun Try.prog 18 [.str s, encE x] (.bool true) := fun σ => by
  have hdc := do_c L x hl hx
  have hbc := back_c L x hl hx
  rw [backC, hd] at hbc
  rw [hd] at hdc
  simp only [errV,optV,Option.isSome_none,Option.getD_none,Bool.false_eq_true,if_false] at hdc hbc
  obtain ⟨cs, hcs⟩ : ∃ v, v = encE x := ⟨_, rfl⟩
  have hcc : cs.cells.length = 17 := by rw [hcs]; rfl
  have hcst : cs.stays = true := by rw [hcs]; rfl
  have hcl : V.agg cs.cells = cs := by rw [hcs]; rfl
  rw [← hcs] at hdc hbc ⊢
  refine Contract.of_runs Try.func18 e18 k18 (by simp [c18]) ?_
  refine Runs.mix 9 ?_
  (refine Runs.of_step Orc.nothing 300 ?_; simp -implicitDefEqProofs only [BB,seval,← decide_not,okind,vpre,vpure,intBin,intPre,strBin,strPre,popTo,argSlots,fldV,fldAV,subCells,idxVV,idxAAV,idxSV,sliceV,sliceSV,boundV,szIs,storeOp,storeS,setRowV,eff,extV,buildV,splice,eqSV,fitsL,eqCells,eqCell,minmaxV,capV,binBV,nilCheckV,bytesV,Orc.nothing,c18,hcc,hcst,V.cells_agg,V.cells_int,V.cells_nils,V.cells_own,V.cells_sl,V.cells_str,V.cells_bool,V.cells_fn,V.cells_ptr,V.cells_rp,V.stays_agg,V.stays_int,V.stays_nils,V.stays_own,V.stays_sl,V.stays_str,V.stays_bool,V.stays_fn,V.stays_ptr,V.stays_rp])
  refine effR_new fun id1 σ1 s1 a1 f1 => ?_
  simp -implicitDefEqProofs only [BB,seval,← decide_not,okind,vpre,vpure,intBin,intPre,strBin,strPre,popTo,argSlots,fldV,fldAV,subCells,idxVV,idxAAV,idxSV,sliceV,sliceSV,boundV,szIs,storeOp,storeS,setRowV,eff,extV,buildV,splice,eqSV,fitsL,eqCells,eqCell,minmaxV,capV,binBV,nilCheckV,bytesV,V.cells,V.stays,a1]
  refine Go.pcall rfl h ?_
  (refine Go.of_step Orc.nothing 300 _ _ ?_; simp -implicitDefEqProofs only [BB,seval,← decide_not,okind,vpre,vpure,intBin,intPre,strBin,strPre,popTo,argSlots,fldV,fldAV,subCells,idxVV,idxAAV,idxSV,sliceV,sliceSV,boundV,szIs,storeOp,storeS,setRowV,eff,extV,buildV,splice,eqSV,fitsL,eqCells,eqCell,minmaxV,capV,binBV,nilCheckV,bytesV,Orc.nothing,a1,hcc,hcl,V.cells_agg,V.cells_int,V.cells_nils,V.cells_own,V.cells_sl,V.cells_str,V.cells_bool,V.cells_fn,V.cells_ptr,V.cells_rp,V.stays_agg,V.stays_int,V.stays_nils,V.stays_own,V.stays_sl,V.stays_str,V.stays_bool,V.stays_fn,V.stays_ptr,V.stays_rp])
  refine Go.pcall rfl hdc ?_
  (refine Go.of_step Orc.nothing 300 _ _ ?_; simp -implicitDefEqProofs only [BB,seval,← decide_not,okind,vpre,vpure,intBin,intPre,strBin,strPre,popTo,argSlots,fldV,fldAV,subCells,idxVV,idxAAV,idxSV,sliceV,sliceSV,boundV,szIs,storeOp,storeS,setRowV,eff,extV,buildV,splice,eqSV,fitsL,eqCells,eqCell,minmaxV,capV,binBV,nilCheckV,bytesV,V.cells,V.stays,Orc.nothing])
  refine Go.pcall rfl h ?_
  (refine Go.of_step Orc.nothing 300 _ _ ?_; simp -implicitDefEqProofs only [BB,seval,← decide_not,okind,vpre,vpure,intBin,intPre,strBin,strPre,popTo,argSlots,fldV,fldAV,subCells,idxVV,idxAAV,idxSV,sliceV,sliceSV,boundV,szIs,storeOp,storeS,setRowV,eff,extV,buildV,splice,eqSV,fitsL,eqCells,eqCell,minmaxV,capV,binBV,nilCheckV,bytesV,Orc.nothing,a1,hcc,hcl,V.cells_agg,V.cells_int,V.cells_nils,V.cells_own,V.cells_sl,V.cells_str,V.cells_bool,V.cells_fn,V.cells_ptr,V.cells_rp,V.stays_agg,V.stays_int,V.stays_nils,V.stays_own,V.stays_sl,V.stays_str,V.stays_bool,V.stays_fn,V.stays_ptr,V.stays_rp])
  refine Go.pcall rfl hbc ?_
  (refine Go.of_step Orc.nothing 300 _ _ ?_; simp -implicitDefEqProofs only [BB,seval,← decide_not,okind,vpre,vpure,intBin,intPre,strBin,strPre,popTo,argSlots,fldV,fldAV,subCells,idxVV,idxAAV,idxSV,sliceV,sliceSV,boundV,szIs,storeOp,storeS,setRowV,eff,extV,buildV,splice,eqSV,fitsL,eqCells,eqCell,minmaxV,capV,binBV,nilCheckV,bytesV,V.cells,V.stays,Orc.nothing])
  refine effD_new fun id2 σ2 s2 a2 f2 => ?_
  simp -implicitDefEqProofs only [BB,seval,← decide_not,okind,vpre,vpure,intBin,intPre,strBin,strPre,popTo,argSlots,fldV,fldAV,subCells,idxVV,idxAAV,idxSV,sliceV,sliceSV,boundV,szIs,storeOp,storeS,setRowV,eff,extV,buildV,splice,eqSV,fitsL,eqCells,eqCell,minmaxV,capV,binBV,nilCheckV,bytesV,a2,V.cells_agg,V.cells_int,V.cells_nils,V.cells_own,V.cells_sl,V.cells_str,V.cells_bool,V.cells_fn,V.cells_ptr,V.cells_rp,V.stays_agg,V.stays_int,V.stays_nils,V.stays_own,V.stays_sl,V.stays_str,V.stays_bool,V.stays_fn,V.stays_ptr,V.stays_rp,encE,Ed.cells,Ed.zero,Sty.zero,encNs_cells,encNs_stays,lenV_encNs]
  exact RetV.pure ((s1.trans s2).updK (s1.none f2)) rfl
section
variable {P : Program} {n : Nat} {st : St} {Q : St → Prop} {k : List It}
theorem Go.pcallE {i : VIns} {l : List VIns} {fx : VX} {xs : List VX} {f : FuncId} {caps : List V} {v : V} (hw : wantV st.s i.g = some true) (ho : i.op = .call fx xs)
    (hf : fx.ev st.s = .fn f caps) (hc : PFun P f (xs.map (·.ev st.s) ++ caps) v) (h : Go P n (.d l k) ⟨putO st.s i.dst v, st.σ⟩ Q) : Go P n (.d (i :: l) k) st Q := by
  refine T_true hw ?_
  rw [ho]
  exact ⟨f, caps, v, hf, fun σ1 _ => hc σ1, h⟩
end
theorem hlf_small {l : List Nd} (h : l.length ≤ 5000) (h2 : l.all (fun x => decide (x.words.length ≤ 1000000000)) = true) : Hlf l := ⟨h, fun x hx => by simpa using List.all_eq_true.1 h2 x hx⟩
def L123 : List Nd := [mono 1 1, mono 2 2, mono 3 3]
def E45 : Ed := ⟨1, -1, 1, 1, [mono 4 4, mono 5 5], Sty.zero⟩
def B45 : Ed := ⟨1, -1, 1, 2, [mono 2 2], Sty.zero⟩
def L13 : List Nd := [mono 1 1, mono 3 3]
def Bt : Ed := ⟨1, -1, 1, 1, [], Sty.zero⟩
def Lb1 : List Nd := [blk 2, mono 1 1]
def Lb12 : List Nd := [blk 3, mono 1 1, mono 2 2]
def E2 : Ed := ⟨1, 0, 2, 0, [mono 2 2], Sty.zero⟩
def E3 : Ed := ⟨1, -1, 1, 0, [], Sty.zero⟩
def E4 : Ed := ⟨1, 0, 3, 0, [], Sty.zero⟩
def E5 : Ed := ⟨2, 0, 1, 0, [], plain36⟩
set_option maxRecDepth 100000 in
theorem x1 : doR L123 E45 = some [mono 1 1, mono 4 4, mono 5 5, mono 3 3] := by rw [doR_F]; decide +kernel
set_option maxRecDepth 100000 in
theorem x2 : backC L123 E45 = B45 := by rw [backC, x1]; decide +kernel
set_option maxRecDepth 100000 in
theorem x3 : betweenR L123 L13 = Bt ∧ (isB L123 && isB L13) = true := by rw [betweenR, isB_F, isB_F]; decide +kernel
set_option maxRecDepth 100000 in
theorem x4 : doR Lb1 E2 = some Lb12 := by rw [doR_F]; decide +kernel
set_option maxRecDepth 100000 in
theorem x5 : doR Lb1 E3 = none ∧ doR Lb1 E4 = none ∧ doR Lb1 E5 = none := by simp only [doR_F]; decide +kernel
theorem hl123 : Hlf L123 := hlf_small (by decide) (by decide)
theorem hl13 : Hlf L13 := hlf_small (by decide) (by decide)
theorem hlb1 : Hlf Lb1 := hlf_small (by decide) (by decide)
set_option maxRecDepth 100000 in
theorem awake36_c : PFun Try.prog 5 [] (.bool true) := fun σ => by
  have d1 := back_c L123 E45 hl123 (hlf_small (by decide) (by decide))
  rw [x1, x2] at d1
  have d2 := between_c L123 L13 hl123 hl13
  rw [x3.1, x3.2] at d2
  simp only [if_true,errV,Option.isSome_some] at d1 d2
  have d3 := does_c s123 s1453 L123 [mono 1 1, mono 4 4, mono 5 5, mono 3 3] E45 of123 of1453 hl123 (hlf_small (by decide) (by decide)) (hlf_small (by decide) (by decide)).sml.fine
  rw [x1] at d3
  have d4 := sameE_c B45 B45 (hlf_small (by decide) (by decide)).sml.fine (hlf_small (by decide) (by decide)).sml.fine
  have d5 := does_c sb1 sb12 Lb1 Lb12 E2 ofb1 ofb12 hlb1 (hlf_small (by decide) (by decide)) (hlf_small (by decide) (by decide)).sml.fine
  rw [x4] at d5
  have d6 := none_c sb1 Lb1 E3 ofb1 hlb1 (hlf_small (by decide) (by decide)) x5.1
  have d7 := none_c sb1 Lb1 E4 ofb1 hlb1 (hlf_small (by decide) (by decide)) x5.2.1
  have d8 := none_c sb1 Lb1 E5 ofb1 hlb1 (hlf_small (by decide) (by decide)) x5.2.2
  have d9 := sameE_c Bt Bt (hlf_small (by decide) (by decide)).sml.fine (hlf_small (by decide) (by decide)).sml.fine
  simp only [decide_true] at d3 d4 d5 d9
  obtain ⟨e1, he1⟩ : ∃ v, v = encE B45 := ⟨_, rfl⟩
  have c1 : e1.cells.length = 17 := by rw [he1]; rfl
  have t1 : e1.stays = true := by rw [he1]; rfl
  have a1' : V.agg e1.cells = e1 := by rw [he1]; rfl
  obtain ⟨e2, he2⟩ : ∃ v, v = encE Bt := ⟨_, rfl⟩
  have c2 : e2.cells.length = 17 := by rw [he2]; rfl
  have t2 : e2.stays = true := by rw [he2]; rfl
  have a2' : V.agg e2.cells = e2 := by rw [he2]; rfl
  have w1 := swapS_c s45 _ (-1) 1 1 of45
  have w2 := swapS_c s2 _ (-1) 1 2 of2
  have w3 := swapS_c s2 _ 0 2 0 of2
  have w4 := swapS_c [] _ (-1) 1 0 of0
  have w5 := swapS_c [] _ 0 3 0 of0
  have w6 := swapS_c [] _ (-1) 1 1 of0
  change PFun Try.prog 15 _ (encE B45) at w2
  change PFun Try.prog 15 _ (encE Bt) at w6
  rw [← he1] at d1 d4 w2
  rw [← he2] at d2 d9 w6
  refine Contract.of_runs Try.func5 e5 k5 (by simp [c5]) ?_
  refine Runs.mix 5 ?_
  (refine Runs.of_step Orc.nothing 300 ?_; simp -implicitDefEqProofs only [BB,seval,← decide_not,okind,vpre,vpure,intBin,intPre,strBin,strPre,popTo,argSlots,fldV,fldAV,subCells,idxVV,idxAAV,idxSV,sliceV,sliceSV,boundV,szIs,storeOp,storeS,setRowV,eff,extV,buildV,splice,eqSV,fitsL,eqCells,eqCell,minmaxV,capV,binBV,nilCheckV,bytesV,V.cells,V.stays,Orc.nothing,c5])
  refine Runs.pcall rfl rfl rfl (of123 _) ?_
  (refine Runs.of_step Orc.nothing 300 ?_; simp -implicitDefEqProofs only [BB,seval,← decide_not,okind,vpre,vpure,intBin,intPre,strBin,strPre,popTo,argSlots,fldV,fldAV,subCells,idxVV,idxAAV,idxSV,sliceV,sliceSV,boundV,szIs,storeOp,storeS,setRowV,eff,extV,buildV,splice,eqSV,fitsL,eqCells,eqCell,minmaxV,capV,binBV,nilCheckV,bytesV,V.cells,V.stays,Orc.nothing])
  refine Runs.pcall rfl rfl rfl (w1 _) ?_
  (refine Runs.of_step Orc.nothing 300 ?_; simp -implicitDefEqProofs only [BB,seval,← decide_not,okind,vpre,vpure,intBin,intPre,strBin,strPre,popTo,argSlots,fldV,fldAV,subCells,idxVV,idxAAV,idxSV,sliceV,sliceSV,boundV,szIs,storeOp,storeS,setRowV,eff,extV,buildV,splice,eqSV,fitsL,eqCells,eqCell,minmaxV,capV,binBV,nilCheckV,bytesV,V.cells,V.stays,Orc.nothing])
  refine Runs.pcall rfl rfl rfl (d1 _) ?_
  (refine Runs.of_step Orc.nothing 300 ?_; simp -implicitDefEqProofs only [BB,seval,← decide_not,okind,vpre,vpure,intBin,intPre,strBin,strPre,popTo,argSlots,fldV,fldAV,subCells,idxVV,idxAAV,idxSV,sliceV,sliceSV,boundV,szIs,storeOp,storeS,setRowV,eff,extV,buildV,splice,eqSV,fitsL,eqCells,eqCell,minmaxV,capV,binBV,nilCheckV,bytesV,Orc.nothing,V.cells_agg,V.cells_int,V.cells_nils,V.cells_own,V.cells_sl,V.cells_str,V.cells_bool,V.cells_fn,V.cells_ptr,V.cells_rp,V.stays_agg,V.stays_int,V.stays_nils,V.stays_own,V.stays_sl,V.stays_str,V.stays_bool,V.stays_fn,V.stays_ptr,V.stays_rp,c1,t1,a1'])
  refine effR_new fun id1 σ1 s1 a1 f1 => ?_
  simp -implicitDefEqProofs only [BB,seval,← decide_not,okind,vpre,vpure,intBin,intPre,strBin,strPre,popTo,argSlots,fldV,fldAV,subCells,idxVV,idxAAV,idxSV,sliceV,sliceSV,boundV,szIs,storeOp,storeS,setRowV,eff,extV,buildV,splice,eqSV,fitsL,eqCells,eqCell,minmaxV,capV,binBV,nilCheckV,bytesV,a1,V.cells_agg,V.cells_int,V.cells_nils,V.cells_own,V.cells_sl,V.cells_str,V.cells_bool,V.cells_fn,V.cells_ptr,V.cells_rp,V.stays_agg,V.stays_int,V.stays_nils,V.stays_own,V.stays_sl,V.stays_str,V.stays_bool,V.stays_fn,V.stays_ptr,V.stays_rp,c1,t1,a1']
  refine Runs.pcall rfl rfl rfl (of123 _) ?_
  (refine Runs.of_step Orc.nothing 300 ?_; simp -implicitDefEqProofs only [BB,seval,← decide_not,okind,vpre,vpure,intBin,intPre,strBin,strPre,popTo,argSlots,fldV,fldAV,subCells,idxVV,idxAAV,idxSV,sliceV,sliceSV,boundV,szIs,storeOp,storeS,setRowV,eff,extV,buildV,splice,eqSV,fitsL,eqCells,eqCell,minmaxV,capV,binBV,nilCheckV,bytesV,V.cells,V.stays,Orc.nothing])
  refine Runs.pcall rfl rfl rfl (of13 _) ?_
  (refine Runs.of_step Orc.nothing 300 ?_; simp -implicitDefEqProofs only [BB,seval,← decide_not,okind,vpre,vpure,intBin,intPre,strBin,strPre,popTo,argSlots,fldV,fldAV,subCells,idxVV,idxAAV,idxSV,sliceV,sliceSV,boundV,szIs,storeOp,storeS,setRowV,eff,extV,buildV,splice,eqSV,fitsL,eqCells,eqCell,minmaxV,capV,binBV,nilCheckV,bytesV,V.cells,V.stays,Orc.nothing])
  refine Runs.pcall rfl rfl rfl (d2 _) ?_
  (refine Runs.of_step Orc.nothing 300 ?_; simp -implicitDefEqProofs only [BB,seval,← decide_not,okind,vpre,vpure,intBin,intPre,strBin,strPre,popTo,argSlots,fldV,fldAV,subCells,idxVV,idxAAV,idxSV,sliceV,sliceSV,boundV,szIs,storeOp,storeS,setRowV,eff,extV,buildV,splice,eqSV,fitsL,eqCells,eqCell,minmaxV,capV,binBV,nilCheckV,bytesV,Orc.nothing,V.cells_agg,V.cells_int,V.cells_nils,V.cells_own,V.cells_sl,V.cells_str,V.cells_bool,V.cells_fn,V.cells_ptr,V.cells_rp,V.stays_agg,V.stays_int,V.stays_nils,V.stays_own,V.stays_sl,V.stays_str,V.stays_bool,V.stays_fn,V.stays_ptr,V.stays_rp,c2,t2,a2'])
  refine effR_new fun id2 σ2 s2 a2 f2 => ?_
  have b1 := s2 _ _ upd_same
  simp -implicitDefEqProofs only [BB,seval,← decide_not,okind,vpre,vpure,intBin,intPre,strBin,strPre,popTo,argSlots,fldV,fldAV,subCells,idxVV,idxAAV,idxSV,sliceV,sliceSV,boundV,szIs,storeOp,storeS,setRowV,eff,extV,buildV,splice,eqSV,fitsL,eqCells,eqCell,minmaxV,capV,binBV,nilCheckV,bytesV,a2,V.cells_agg,V.cells_int,V.cells_nils,V.cells_own,V.cells_sl,V.cells_str,V.cells_bool,V.cells_fn,V.cells_ptr,V.cells_rp,V.stays_agg,V.stays_int,V.stays_nils,V.stays_own,V.stays_sl,V.stays_str,V.stays_bool,V.stays_fn,V.stays_ptr,V.stays_rp,c2,t2,a2']
  refine Go.pcallE rfl rfl rfl w1 ?_
  (refine Go.of_step Orc.nothing 300 _ _ ?_; simp -implicitDefEqProofs only [BB,seval,← decide_not,okind,vpre,vpure,intBin,intPre,strBin,strPre,popTo,argSlots,fldV,fldAV,subCells,idxVV,idxAAV,idxSV,sliceV,sliceSV,boundV,szIs,storeOp,storeS,setRowV,eff,extV,buildV,splice,eqSV,fitsL,eqCells,eqCell,minmaxV,capV,binBV,nilCheckV,bytesV,V.cells,V.stays,Orc.nothing])
  refine Go.pcallE rfl rfl rfl d3 ?_
  (refine Go.of_step Orc.nothing 300 _ _ ?_; simp -implicitDefEqProofs only [BB,seval,← decide_not,okind,vpre,vpure,intBin,intPre,strBin,strPre,popTo,argSlots,fldV,fldAV,subCells,idxVV,idxAAV,idxSV,sliceV,sliceSV,boundV,szIs,storeOp,storeS,setRowV,eff,extV,buildV,splice,eqSV,fitsL,eqCells,eqCell,minmaxV,capV,binBV,nilCheckV,bytesV,Orc.nothing,upd_ne (ne_new upd_same f2),b1,V.cells_agg,V.cells_int,V.cells_nils,V.cells_own,V.cells_sl,V.cells_str,V.cells_bool,V.cells_fn,V.cells_ptr,V.cells_rp,V.stays_agg,V.stays_int,V.stays_nils,V.stays_own,V.stays_sl,V.stays_str,V.stays_bool,V.stays_fn,V.stays_ptr,V.stays_rp,c1,a1'])
  refine Go.pcallE rfl rfl rfl w2 ?_
  (refine Go.of_step Orc.nothing 300 _ _ ?_; simp -implicitDefEqProofs only [BB,seval,← decide_not,okind,vpre,vpure,intBin,intPre,strBin,strPre,popTo,argSlots,fldV,fldAV,subCells,idxVV,idxAAV,idxSV,sliceV,sliceSV,boundV,szIs,storeOp,storeS,setRowV,eff,extV,buildV,splice,eqSV,fitsL,eqCells,eqCell,minmaxV,capV,binBV,nilCheckV,bytesV,V.cells,V.stays,Orc.nothing])
  refine Go.pcallE rfl rfl rfl d4 ?_
  (refine Go.of_step Orc.nothing 300 _ _ ?_; simp -implicitDefEqProofs only [BB,seval,← decide_not,okind,vpre,vpure,intBin,intPre,strBin,strPre,popTo,argSlots,fldV,fldAV,subCells,idxVV,idxAAV,idxSV,sliceV,sliceSV,boundV,szIs,storeOp,storeS,setRowV,eff,extV,buildV,splice,eqSV,fitsL,eqCells,eqCell,minmaxV,capV,binBV,nilCheckV,bytesV,V.cells,V.stays,Orc.nothing])
  refine Go.pcallE rfl rfl rfl w3 ?_
  (refine Go.of_step Orc.nothing 300 _ _ ?_; simp -implicitDefEqProofs only [BB,seval,← decide_not,okind,vpre,vpure,intBin,intPre,strBin,strPre,popTo,argSlots,fldV,fldAV,subCells,idxVV,idxAAV,idxSV,sliceV,sliceSV,boundV,szIs,storeOp,storeS,setRowV,eff,extV,buildV,splice,eqSV,fitsL,eqCells,eqCell,minmaxV,capV,binBV,nilCheckV,bytesV,V.cells,V.stays,Orc.nothing])
  refine Go.pcallE rfl rfl rfl d5 ?_
  (refine Go.of_step Orc.nothing 300 _ _ ?_; simp -implicitDefEqProofs only [BB,seval,← decide_not,okind,vpre,vpure,intBin,intPre,strBin,strPre,popTo,argSlots,fldV,fldAV,subCells,idxVV,idxAAV,idxSV,sliceV,sliceSV,boundV,szIs,storeOp,storeS,setRowV,eff,extV,buildV,splice,eqSV,fitsL,eqCells,eqCell,minmaxV,capV,binBV,nilCheckV,bytesV,V.cells,V.stays,Orc.nothing])
  refine Go.pcallE rfl rfl rfl w4 ?_
  (refine Go.of_step Orc.nothing 300 _ _ ?_; simp -implicitDefEqProofs only [BB,seval,← decide_not,okind,vpre,vpure,intBin,intPre,strBin,strPre,popTo,argSlots,fldV,fldAV,subCells,idxVV,idxAAV,idxSV,sliceV,sliceSV,boundV,szIs,storeOp,storeS,setRowV,eff,extV,buildV,splice,eqSV,fitsL,eqCells,eqCell,minmaxV,capV,binBV,nilCheckV,bytesV,V.cells,V.stays,Orc.nothing])
  refine Go.pcallE rfl rfl rfl d6 ?_
  (refine Go.of_step Orc.nothing 300 _ _ ?_; simp -implicitDefEqProofs only [BB,seval,← decide_not,okind,vpre,vpure,intBin,intPre,strBin,strPre,popTo,argSlots,fldV,fldAV,subCells,idxVV,idxAAV,idxSV,sliceV,sliceSV,boundV,szIs,storeOp,storeS,setRowV,eff,extV,buildV,splice,eqSV,fitsL,eqCells,eqCell,minmaxV,capV,binBV,nilCheckV,bytesV,V.cells,V.stays,Orc.nothing])
  refine Go.pcallE rfl rfl rfl w5 ?_
  (refine Go.of_step Orc.nothing 300 _ _ ?_; simp -implicitDefEqProofs only [BB,seval,← decide_not,okind,vpre,vpure,intBin,intPre,strBin,strPre,popTo,argSlots,fldV,fldAV,subCells,idxVV,idxAAV,idxSV,sliceV,sliceSV,boundV,szIs,storeOp,storeS,setRowV,eff,extV,buildV,splice,eqSV,fitsL,eqCells,eqCell,minmaxV,capV,binBV,nilCheckV,bytesV,V.cells,V.stays,Orc.nothing])
  refine Go.pcallE rfl rfl rfl d7 ?_
  (refine Go.of_step Orc.nothing 300 _ _ ?_; simp -implicitDefEqProofs only [BB,seval,← decide_not,okind,vpre,vpure,intBin,intPre,strBin,strPre,popTo,argSlots,fldV,fldAV,subCells,idxVV,idxAAV,idxSV,sliceV,sliceSV,boundV,szIs,storeOp,storeS,setRowV,eff,extV,buildV,splice,eqSV,fitsL,eqCells,eqCell,minmaxV,capV,binBV,nilCheckV,bytesV,V.cells,V.stays,Orc.nothing])
  refine Go.pcallE rfl rfl rfl plain36_c ?_
  have hbu : buildV [.int .i64 0, .int .i64 0, .int .i64 0, .int .i64 0, .nils, .int .i64 0, .int .i64 0, .int .i64 0, .int .i64 0, .int .i64 0, .int .i64 0, .int .i64 0, .int .i64 0, .int .i64 0, .int .i64 0, .int .i64 0, .int .i64 0]
      [(0, 1, .int .i64 2), (2, 1, .int .i64 1), (5, 12, .agg plain36.cells)] = some [.int .i64 2, .int .i64 0, .int .i64 1, .int .i64 0, .nils, .int .i64 0, .int .i64 0, .int .i64 0, .int .i64 0, .int .i64 0, .int .i64 2, .int .i64 2, .int .i64 0, .int .i64 0, .int .i64 0, .int .i64 0, .int .i64 0] := rfl
  (refine Go.of_step Orc.nothing 300 _ _ ?_; simp -implicitDefEqProofs only [BB,seval,← decide_not,okind,vpre,vpure,intBin,intPre,strBin,strPre,popTo,argSlots,fldV,fldAV,subCells,idxVV,idxAAV,idxSV,sliceV,sliceSV,boundV,szIs,storeOp,storeS,setRowV,eff,extV,splice,eqSV,fitsL,eqCells,eqCell,minmaxV,capV,binBV,nilCheckV,bytesV,V.cells,V.stays,Orc.nothing,hbu])
  have d8' : PFun Try.prog 18 [.str sb1, .agg [.int .i64 2, .int .i64 0, .int .i64 1, .int .i64 0, .nils, .int .i64 0, .int .i64 0, .int .i64 0, .int .i64 0, .int .i64 0, .int .i64 2, .int .i64 2, .int .i64 0, .int .i64 0, .int .i64 0, .int .i64 0, .int .i64 0]] (.bool true) :=
    fun σ => PFun.borrow (by simp only [WkL]; exact ⟨Wk.refl (nost_sub σ) _, wk_edN (nost_sub σ) 2 0 1 0 plain36, trivial⟩) d8 rfl
  refine Go.pcallE rfl rfl rfl d8' ?_
  (refine Go.of_step Orc.nothing 300 _ _ ?_; simp -implicitDefEqProofs only [BB,seval,← decide_not,okind,vpre,vpure,intBin,intPre,strBin,strPre,popTo,argSlots,fldV,fldAV,subCells,idxVV,idxAAV,idxSV,sliceV,sliceSV,boundV,szIs,storeOp,storeS,setRowV,eff,extV,buildV,splice,eqSV,fitsL,eqCells,eqCell,minmaxV,capV,binBV,nilCheckV,bytesV,Orc.nothing,V.cells_agg,V.cells_int,V.cells_nils,V.cells_own,V.cells_sl,V.cells_str,V.cells_bool,V.cells_fn,V.cells_ptr,V.cells_rp,V.stays_agg,V.stays_int,V.stays_nils,V.stays_own,V.stays_sl,V.stays_str,V.stays_bool,V.stays_fn,V.stays_ptr,V.stays_rp,a2,c2,a2',upd_same])
  refine Go.pcallE rfl rfl rfl w6 ?_
  (refine Go.of_step Orc.nothing 300 _ _ ?_; simp -implicitDefEqProofs only [BB,seval,← decide_not,okind,vpre,vpure,intBin,intPre,strBin,strPre,popTo,argSlots,fldV,fldAV,subCells,idxVV,idxAAV,idxSV,sliceV,sliceSV,boundV,szIs,storeOp,storeS,setRowV,eff,extV,buildV,splice,eqSV,fitsL,eqCells,eqCell,minmaxV,capV,binBV,nilCheckV,bytesV,V.cells,V.stays,Orc.nothing])
  refine Go.pcallE rfl rfl rfl d9 ?_
  (refine Go.of_step Orc.nothing 300 _ _ ?_; simp -implicitDefEqProofs only [BB,seval,← decide_not,okind,vpre,vpure,intBin,intPre,strBin,strPre,popTo,argSlots,fldV,fldAV,subCells,idxVV,idxAAV,idxSV,sliceV,sliceSV,boundV,szIs,storeOp,storeS,setRowV,eff,extV,buildV,splice,eqSV,fitsL,eqCells,eqCell,minmaxV,capV,binBV,nilCheckV,bytesV,V.cells,V.stays,Orc.nothing])
  exact RetV.pure (((s1.updK f1).trans s2).updK ((s1.updK f1).none f2)) rfl
end Go.Vc
namespace Go.Vc
open Go.Proofs
theorem Srt.inj {a : Int} {l : List Int} (h : Srt a l) {i j : Nat} {x : Int} (hi : l[i]? = some x) (hj : l[j]? = some x) : i = j := by
  rcases Nat.le_total i j with hl | hl
  · have := Srt.lt_of_get h i j x x hl hi hj; omega
  · have := Srt.lt_of_get h j i x x hl hj hi; omega
end Go.Vc
namespace Go.Vc
open Go.Proofs
section
variable {P : Program} {n : Nat} {Q : St → Prop}
end
theorem backR_len {l : List Nd} {x : Ed} {N : Nat} (hl : Len N l) : Len N (backR l x).sub := by
  rw [backR]
  split
  · exact ⟨by simp, by simp⟩
  · exact ⟨by have := hl.1; have := cutL_len (l := l) (a := x.pos) (e := (goesR l x.into x.pos x.many).2.1); simp only; omega, fun y hy => hl.2 y (List.mem_of_mem_drop (List.mem_of_mem_take hy))⟩
end Go.Vc
namespace Go.Vc
open Go.Proofs
set_option maxRecDepth 100000 in
theorem agg_39 : aggT Try.prog 26 = true := by kernel_rfl
def Nd.realL (l : List Nd) : Prop := l.length ≤ 800000000000 ∧ ∀ x ∈ l, x.real
def Ed.real (x : Ed) : Prop := Nd.realL x.sub
theorem realL_lim {l : List Nd} (h : Nd.realL l) : l.length ≤ 1000000000000 ∧ ∀ x ∈ l, x.words.length ≤ 200000000000000 :=
  ⟨by have := h.1; omega, fun x hx => by have := (h.2 x hx).2.1; omega⟩
set_option maxRecDepth 100000 in
theorem shp_edit {n : Nat} {vs : List V} (h : ShpC Try.prog (n + 5) 26 vs) : ∃ x : Ed, vs = x.cells ∧ x.real := by
  replace h := shpC_struct Try.underlying26 h
  simp only [ShpFs] at h
  obtain ⟨_, _, rfl, h1, _, _, rfl, h2, _, _, rfl, h3, _, _, rfl, h4, _, _, rfl, h5, _, _, rfl, h6, rfl⟩ := h
  obtain ⟨m1, rfl, g1⟩ := shp_int h1
  obtain ⟨m2, rfl, g2⟩ := shp_int h2
  obtain ⟨m3, rfl, g3⟩ := shp_int h3
  obtain ⟨m4, rfl, g4⟩ := shp_int h4
  obtain ⟨l, rfl, g5, g5'⟩ := shp_nodes h5
  obtain ⟨s, rfl, g6⟩ := shp_style h6
  exact ⟨⟨m1, m2, m3, m4, l, s⟩, rfl, g5, g5'⟩
set_option maxRecDepth 100000 in
theorem arg_edit {n : Nat} {vs : List V} (h : ShpC Try.prog (n + 5) 26 vs) : ∃ x : Ed, argOf Try.prog 26 vs = encE x ∧ x.real := by
  obtain ⟨x, rfl, hx⟩ := shp_edit h
  exact ⟨x, by unfold argOf; rw [agg_39]; rfl, hx⟩
set_option maxRecDepth 100000 in
theorem arg_nodesL {n : Nat} {vs : List V} (h : ShpC Try.prog (n + 4) 22 vs) : ∃ l, argOf Try.prog 22 vs = encNs l ∧ Nd.realL l := by
  obtain ⟨l, h1, h2, h3⟩ := arg_nodes h
  exact ⟨l, h1, h2, h3⟩
end Go.Vc
namespace Go.Vc
variable {P : Program} {n : Nat} {st : St} {Q : St → Prop} {k : List It} {μ : Mu} {w : World}
theorem clearN_sound {F : Fr} {a : Act} (hs : SatM F μ st a w) {o : Oper} {x : Operand} {t e : TypeId} {args : Array Operand} {argTypes : Array TypeId} {i : TypeInfo} {z : Value}
    (hoo : o.op = .call { callee := .builtin .clear, args := args, argTypes := argTypes }) (harg : args = #[x]) (hty : argTypes[0]? = some t)
    (ht : P.underlying t = some (.slice e)) (hz : zeroOf P e = some (i, z)) (h1 : (cx F.n x).ev st.s = .nils) :
    ∃ y w', (execOp a.eval o).run P w = .ok (.value y) w' ∧ SatM F μ ⟨putO st.s (o.dst.filter (· < F.n)) (.tup []), st.σ⟩ (a.put o.dst y) w' := by
  have hx := rep_cx hs x
  rw [h1] at hx
  simp only [Rep] at hx
  have hrun : ∀ w', (Builtin.clear_ argTypes o.type #[a.eval x]).run P w = .ok (.tuple #[]) w' → (execOp a.eval o).run P w = .ok (.value (.tuple #[])) w' := by
    intro w' hw'
    unfold execOp
    rw [hoo]
    simp [resolve, invoke, Go.builtin, harg, hw']
  have hrep : Rep μ (Owned μ st.σ) w (.tup []) (.tuple #[]) := by simp only [Rep]; exact ⟨[], rfl, by simp [RepAll]⟩
  refine ⟨.tuple #[], w, hrun w ?_, hs.pure hrep⟩
  rw [hx]
  simp [Builtin.clear_, hty, run_underlying ht]
theorem Runs.clearN {i : VIns} {l : List VIns} {sz : Nat} {z : V} {xv : VX} (hw : wantV st.s i.g = some true) (ho : i.op = .clear sz z xv) (h1 : xv.ev st.s = .nils)
    (h : Runs P n (.ops l :: k) ⟨putO st.s i.dst (.tup []), st.σ⟩ Q) : Runs P n (.ops (i :: l) :: k) st Q := by
  refine Runs.ins (by rw [ho]; simp) hw fun F hn μ a w o all hi hs next Q' hnext => ?_
  subst hn
  obtain ⟨hop, hd⟩ := cins_op hi
  rw [ho] at hop
  obtain ⟨x, t, e, args, argTypes, ti, zv, g1, g2, g3, g4, g5, rfl, rfl, rfl⟩ := cop_clear hop
  obtain ⟨y, w', hx, hs'⟩ := clearN_sound hs g1 g2 g3 g4 g5 h1
  unfold Oper.wp
  rw [hx]
  refine hnext _ _ _ ⟨μ, ?_⟩ h
  rw [← hd]
  exact hs'
end Go.Vc
