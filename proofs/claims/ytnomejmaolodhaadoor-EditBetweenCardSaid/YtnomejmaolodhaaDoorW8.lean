/- Part 8 of the library of this proof. -/
import Derived.Test.YtnomejmaolodhaaDoorW7
set_option linter.all false
namespace Go.Vc
open Go.Proofs
def ups (l : List Nd) : Nat → Int → List Int
  | 0, _ => []
  | f + 1, p => if 0 ≤ p then p :: ups l f (parR l p.toNat) else []
theorem ups_neg {l : List Nd} {f : Nat} {p : Int} (h : p < 0) : ups l f p = [] := by
  cases f with
  | zero => rfl
  | succ f => rw [ups, if_neg (by omega)]
theorem ups_pos {l : List Nd} {f : Nat} {p : Int} (h : 0 ≤ p) (hf : p < f) : ∃ g, f = g + 1 ∧ ups l f p = p :: ups l g (parR l p.toNat) := by
  cases f with
  | zero => omega
  | succ f => exact ⟨f, rfl, by rw [ups, if_pos h]⟩
theorem parR_range (l : List Nd) (a : Nat) : -1 ≤ parR l a ∧ parR l a < a := parD_range l a a
theorem ldN (σ : Store) (l : List Nd) : loadV σ false 1 (.rp (encNs l)) = some (encNs l) := rfl
theorem fdN (l : List Nd) : fldAV false 0 1 (.rp (.agg [encNs l])) = some (.rp (encNs l)) := rfl
def upsV (l : List Int) : List (List V) := l.map fun p => [vI p]
set_option maxRecDepth 100000 in
theorem above_iter (l : List Nd) (hl : Fine l) (hb : isB l = true) (a : Nat) (ha : a < l.length) : Iter Tryd.prog 76 [.rp (.agg [encNs l]), .rp (vI a)] (upsV (ups l (l.length + 1) (parR l a))) := by
  have hhas : hasI l (a : Int) = true := hasI_iff.2 ⟨by omega, by omega⟩
  have hpr := parR_range l a
  refine ⟨k76, fun idl J Jx σ0 hy hJ => ?_⟩
  refine (Contract.of_runs Tryd.func76 e76 k76 (by simp [c76]) ?_).2
  refine Runs.mix 5 ?_
  (refine Runs.of_step Orc.nothing 300 ?_; simp -implicitDefEqProofs only [BB,seval,← decide_not,okind,vpre,vpure,intBin,intPre,strBin,strPre,popTo,argSlots,fldV,subCells,idxVV,idxAAV,idxSV,sliceV,sliceSV,boundV,szIs,storeOp,storeS,setRowV,eff,extV,buildV,splice,eqSV,fitsL,eqCells,eqCell,minmaxV,capV,binBV,nilCheckV,bytesV,V.cells,V.stays,Orc.nothing,c76,ldN,fdN])
  refine Runs.pcall rfl rfl rfl (has9_c l a _) ?_
  rw [hhas]
  (refine Runs.of_step Orc.nothing 300 ?_; simp -implicitDefEqProofs only [BB,seval,← decide_not,okind,vpre,vpure,intBin,intPre,strBin,strPre,popTo,argSlots,fldV,subCells,idxVV,idxAAV,idxSV,sliceV,sliceSV,boundV,szIs,storeOp,storeS,setRowV,eff,extV,buildV,splice,eqSV,fitsL,eqCells,eqCell,minmaxV,capV,binBV,nilCheckV,bytesV,V.cells,V.stays,Orc.nothing,ldN,fdN])
  refine Runs.pcall rfl rfl rfl (parent9_c l hl hb a ha _) ?_
  (refine Runs.of_step Orc.nothing 300 ?_; simp -implicitDefEqProofs only [BB,seval,← decide_not,okind,vpre,vpure,intBin,intPre,strBin,strPre,popTo,argSlots,fldV,fldAV,subCells,idxVV,idxAAV,idxSV,sliceV,sliceSV,boundV,szIs,storeOp,storeS,setRowV,eff,extV,buildV,splice,eqSV,fitsL,eqCells,eqCell,minmaxV,capV,binBV,nilCheckV,bytesV,V.cells,V.stays,Orc.nothing])
  refine Runs.loop (fun m st => ∃ (pre : List Int) (q : Int) (f : Nat) (σJ : Store), m = (q + 1).toNat ∧ -1 ≤ q ∧ q < l.length ∧ q < f ∧ ups l (l.length + 1) (parR l a) = pre ++ ups l f q ∧ J (upsV pre) σJ ∧ SubStore σJ st.σ ∧
    st.s 0 = .yl idl ∧ st.s 1 = .rp (.agg [encNs l]) ∧ st.s 4 = vI q) (parR l a + 1).toNat ?_ ?_
  · exact ⟨[], parR l a, l.length + 1, σ0, rfl, by omega, by omega, by omega, rfl, hJ, SubStore.refl _, rfl, rfl, rfl⟩
  · rintro m ⟨s, σ'⟩ ⟨pre, q, f, σJ, rfl, hq1, hq2, hqf, hxs, hJp, hsub, h0, h1, h4⟩
    simp only at hsub h0 h1 h4
    refine Runs.mix 5 ?_
    by_cases hq : 0 ≤ q
    · obtain ⟨g, rfl, hu⟩ := ups_pos (l := l) hq hqf
      obtain ⟨k, rfl⟩ : ∃ k : Nat, q = k := ⟨q.toNat, by omega⟩
      have hge : ((k : Int) ≥ 0) = True := by simp
      rw [Int.toNat_natCast] at hu
      have hpk := parR_range l k
      have hkl : k < l.length := by omega
      have e : upsV (ups l (l.length + 1) (parR l a)) = upsV pre ++ [vI k] :: upsV (ups l g (parR l k)) := by rw [hxs, hu]; simp [upsV]
      (refine Runs.of_step Orc.nothing 300 ?_; simp -implicitDefEqProofs only [BB,seval,← decide_not,okind,vpre,vpure,intBin,intPre,strBin,strPre,popTo,argSlots,fldV,fldAV,subCells,idxVV,idxAAV,idxSV,sliceV,sliceSV,boundV,szIs,storeOp,storeS,setRowV,eff,extV,buildV,splice,eqSV,fitsL,eqCells,eqCell,minmaxV,capV,binBV,nilCheckV,bytesV,V.cells,V.stays,Orc.nothing,h0,h1,h4,hge])
      refine Runs.ycall (Post := fun b σ2 => ∃ σJ', Beside σJ σ' σJ' σ2 ∧ ((b = true ∧ J (upsV pre ++ [[vI k]]) σJ') ∨ (b = false ∧ Jx (upsV pre ++ [[vI k]]) σJ'))) rfl rfl rfl (hy _ [vI k] _ σJ σ' e hJp hsub) ?_
      rintro b σ2 ⟨σJ', hbs, hbb⟩
      rcases hbb with ⟨rfl, hbb⟩ | ⟨rfl, hbb⟩
      · (refine Runs.of_step Orc.nothing 300 ?_; simp -implicitDefEqProofs only [BB,seval,← decide_not,okind,vpre,vpure,intBin,intPre,strBin,strPre,popTo,argSlots,fldV,subCells,idxVV,idxAAV,idxSV,sliceV,sliceSV,boundV,szIs,storeOp,storeS,setRowV,eff,extV,buildV,splice,eqSV,fitsL,eqCells,eqCell,minmaxV,capV,binBV,nilCheckV,bytesV,V.cells,V.stays,Orc.nothing,h0,h1,h4,ldN,fdN])
        refine Runs.pcall rfl rfl rfl (parent9_c l hl hb k hkl _) ?_
        (refine Runs.of_step Orc.nothing 300 ?_; simp -implicitDefEqProofs only [BB,seval,← decide_not,okind,vpre,vpure,intBin,intPre,strBin,strPre,popTo,argSlots,fldV,fldAV,subCells,idxVV,idxAAV,idxSV,sliceV,sliceSV,boundV,szIs,storeOp,storeS,setRowV,eff,extV,buildV,splice,eqSV,fitsL,eqCells,eqCell,minmaxV,capV,binBV,nilCheckV,bytesV,V.cells,V.stays,Orc.nothing,h0,h1])
        refine ⟨_, ?_, pre ++ [(k : Int)], parR l k, g, σJ', rfl, by omega, by omega, by omega, by rw [hxs, hu]; simp, ?_, hbs.1, by simp [h0, h1]⟩
        · omega
        · simpa [upsV] using hbb
      · (refine Runs.of_step Orc.nothing 300 ?_; simp -implicitDefEqProofs only [BB,seval,← decide_not,okind,vpre,vpure,intBin,intPre,strBin,strPre,popTo,argSlots,fldV,fldAV,subCells,idxVV,idxAAV,idxSV,sliceV,sliceSV,boundV,szIs,storeOp,storeS,setRowV,eff,extV,buildV,splice,eqSV,fitsL,eqCells,eqCell,minmaxV,capV,binBV,nilCheckV,bytesV,V.cells,V.stays,Orc.nothing,h0,h1,h4])
        refine ⟨_, σJ', hbs.1, Wk.refl hbs.1 _, .inr ⟨upsV pre ++ [[vI k]], ?_, hbb⟩⟩
        rw [e]
        exact ⟨upsV (ups l g (parR l k)), by simp⟩
    · have hge : (q ≥ 0) = False := by simp; omega
      (refine Runs.of_step Orc.nothing 300 ?_; simp -implicitDefEqProofs only [BB,seval,← decide_not,okind,vpre,vpure,intBin,intPre,strBin,strPre,popTo,argSlots,fldV,fldAV,subCells,idxVV,idxAAV,idxSV,sliceV,sliceSV,boundV,szIs,storeOp,storeS,setRowV,eff,extV,buildV,splice,eqSV,fitsL,eqCells,eqCell,minmaxV,capV,binBV,nilCheckV,bytesV,V.cells,V.stays,Orc.nothing,h0,h1,h4,hge])
      rw [ups_neg (l := l) (f := f) (p := q) (by omega), List.append_nil] at hxs
      exact ⟨_, σJ, hsub, Wk.refl hsub _, .inl (by rw [hxs]; exact hJp)⟩
theorem aboveF_c (l : List Nd) (a : Int) : PFun Tryd.prog 70 [.agg [encNs l], vI a] (.fn 76 [.rp (.agg [encNs l]), .rp (vI a)]) := fun σ => by
  refine Contract.of_runs Tryd.func70 e70 k70 (by simp [c70]) ?_
  refine Runs.mix 4 ?_
  have q1 : (V.agg [encNs l]).cells.length = 1 := rfl
  have q2 : (V.agg [encNs l]).stays = true := rfl
  generalize V.agg [encNs l] = x at *
  (refine Runs.of_step Orc.nothing 300 ?_; simp -implicitDefEqProofs only [BB,seval,← decide_not,okind,vpre,vpure,intBin,intPre,strBin,strPre,popTo,argSlots,fldV,fldAV,subCells,idxVV,idxAAV,idxSV,sliceV,sliceSV,boundV,szIs,storeOp,storeS,setRowV,eff,extV,buildV,splice,eqSV,fitsL,eqCells,eqCell,minmaxV,capV,binBV,nilCheckV,bytesV,Orc.nothing,c70,q1,q2,V.cells_agg,V.cells_int,V.cells_nils,V.cells_own,V.cells_sl,V.cells_str,V.cells_bool,V.cells_fn,V.cells_ptr,V.cells_rp,V.stays_agg,V.stays_int,V.stays_nils,V.stays_own,V.stays_sl,V.stays_str,V.stays_bool,V.stays_fn,V.stays_ptr,V.stays_rp])
  refine effR_new fun id1 σ1 s1 a1 f1 => ?_
  simp -implicitDefEqProofs only [BB,seval,← decide_not,okind,vpre,vpure,intBin,intPre,strBin,strPre,popTo,argSlots,fldV,fldAV,subCells,idxVV,idxAAV,idxSV,sliceV,sliceSV,boundV,szIs,storeOp,storeS,setRowV,eff,extV,buildV,splice,eqSV,fitsL,eqCells,eqCell,minmaxV,capV,binBV,nilCheckV,bytesV,V.cells,V.stays]
  refine effR_new fun id2 σ2 s2 a2 f2 => ?_
  simp -implicitDefEqProofs only [BB,seval,← decide_not,okind,vpre,vpure,intBin,intPre,strBin,strPre,popTo,argSlots,fldV,fldAV,subCells,idxVV,idxAAV,idxSV,sliceV,sliceSV,boundV,szIs,storeOp,storeS,setRowV,eff,extV,buildV,splice,eqSV,fitsL,eqCells,eqCell,minmaxV,capV,binBV,nilCheckV,bytesV,V.cells,V.stays]
  exact ⟨_, σ, s1.trans s2, Wk.fn (vs' := [.rp x, .rp (vI a)]) ⟨Wk.ptr (s1.trans s2) (s2 _ _ a1) f1, Wk.ptr (s1.trans s2) a2 (s1.none f2), trivial⟩, rfl, rfl⟩
set_option maxRecDepth 100000 in
theorem parent91_c (l : List Nd) (hl : Fine l) (hb : isB l = true) (a : Nat) (ha : a < l.length) : PFun Tryd.prog 60 [encNs l, vI a] (vI (parR l a)) := fun σ => by
  refine Contract.of_runs Tryd.func60 e60 k60 (by simp [c60]) ?_
  refine Runs.mix 5 ?_
  have hit := above_iter l hl hb a ha
  have hpr := parR_range l a
  (refine Runs.of_step Orc.nothing 300 ?_; simp -implicitDefEqProofs only [BB,seval,← decide_not,okind,vpre,vpure,intBin,intPre,strBin,strPre,popTo,argSlots,fldV,fldAV,subCells,idxVV,idxAAV,idxSV,sliceV,sliceSV,boundV,szIs,storeOp,storeS,setRowV,eff,extV,buildV,splice,eqSV,fitsL,eqCells,eqCell,minmaxV,capV,binBV,nilCheckV,bytesV,V.cells,V.stays,Orc.nothing,c60])
  refine effR_new fun id4 σ1 s1 a4 f4 => ?_
  simp -implicitDefEqProofs only [BB,seval,← decide_not,okind,vpre,vpure,intBin,intPre,strBin,strPre,popTo,argSlots,fldV,fldAV,subCells,idxVV,idxAAV,idxSV,sliceV,sliceSV,boundV,szIs,storeOp,storeS,setRowV,eff,extV,buildV,splice,eqSV,fitsL,eqCells,eqCell,minmaxV,capV,binBV,nilCheckV,bytesV,V.cells,V.stays]
  refine Runs.pcall rfl rfl rfl (tree_c l hl hb _) ?_
  (refine Runs.of_step Orc.nothing 300 ?_; simp -implicitDefEqProofs only [BB,seval,← decide_not,okind,vpre,vpure,intBin,intPre,strBin,strPre,popTo,argSlots,fldV,fldAV,subCells,idxVV,idxAAV,idxSV,sliceV,sliceSV,boundV,szIs,storeOp,storeS,setRowV,eff,extV,buildV,splice,eqSV,fitsL,eqCells,eqCell,minmaxV,capV,binBV,nilCheckV,bytesV,V.cells,V.stays,Orc.nothing])
  refine Runs.pcall rfl rfl rfl (aboveF_c l a _) ?_
  (refine Runs.of_step Orc.nothing 300 ?_; simp -implicitDefEqProofs only [BB,seval,← decide_not,okind,vpre,vpure,intBin,intPre,strBin,strPre,popTo,argSlots,fldV,fldAV,subCells,idxVV,idxAAV,idxSV,sliceV,sliceSV,boundV,szIs,storeOp,storeS,setRowV,eff,extV,buildV,splice,eqSV,fitsL,eqCells,eqCell,minmaxV,capV,binBV,nilCheckV,bytesV,V.cells,V.stays,Orc.nothing])
  generalize hS : mix 5 _ _ = S
  have S4 : S 4 = .ptr id4 0 0 := by rw [← hS]; rfl
  have S9 : S 9 = .fn 76 [.rp (.agg [encNs l]), .rp (vI a)] := by rw [← hS]; rfl
  clear hS
  have hx0 : ∀ x pre post, upsV (ups l (l.length + 1) (parR l a)) = pre ++ x :: post → pre = [] → x = [vI (parR l a)] := fun x pre post h hp => by
    subst hp
    by_cases h0 : 0 ≤ parR l a
    · obtain ⟨g, _, hu⟩ := ups_pos (l := l) (f := l.length + 1) h0 (by omega)
      rw [hu] at h
      simp only [upsV,List.map_cons,List.nil_append,List.cons.injEq] at h
      exact h.1.symm
    · rw [ups_neg (by omega)] at h; simp [upsV] at h
  refine Runs.rangeF (g := .t 9) (caps := [.rp (.agg [encNs l]), .rp (vI a)]) S9 hit (fun x hx => ?_) [] (fun pre σJ => pre = [] ∧ σJ = σ1) (fun c pre σJ => c = none ∧ σJ = upd σ1 id4 ⟨3, 1, [vI (parR l a)]⟩) ?_ ?_ ?_ ?_ ?_
  · simp only [upsV,List.mem_map] at hx
    obtain ⟨t, _, rfl⟩ := hx; rfl
  · exact ⟨rfl, rfl⟩
  · rintro pre x post σJ σB hxs ⟨rfl, rfl⟩ hsub
    obtain rfl := hx0 x [] post hxs rfl
    have b4 := hsub _ _ a4
    generalize hSS : putL S [10] [vI (parR l a)] = S0
    have T4 : S0 4 = .ptr id4 0 0 := by rw [← hSS]; exact S4
    have T10 : S0 10 = vI (parR l a) := by rw [← hSS]; rfl
    clear hSS
    refine Runs.mix 11 ?_
    (refine Runs.of_step Orc.nothing 300 ?_; simp -implicitDefEqProofs only [BB,seval,← decide_not,okind,vpre,vpure,intBin,intPre,strBin,strPre,popTo,argSlots,fldV,fldAV,subCells,idxVV,idxAAV,idxSV,sliceV,sliceSV,boundV,szIs,storeOp,storeS,setRowV,eff,extV,buildV,splice,eqSV,fitsL,eqCells,eqCell,minmaxV,capV,binBV,nilCheckV,bytesV,V.cells,V.stays,Orc.nothing,T4,T10,b4])
    refine Runs.mix 11 ?_
    (refine Runs.of_step Orc.nothing 300 ?_; simp -implicitDefEqProofs only [BB,seval,← decide_not,okind,vpre,vpure,intBin,intPre,strBin,strPre,popTo,argSlots,fldV,fldAV,subCells,idxVV,idxAAV,idxSV,sliceV,sliceSV,boundV,szIs,storeOp,storeS,setRowV,eff,extV,buildV,splice,eqSV,fitsL,eqCells,eqCell,minmaxV,capV,binBV,nilCheckV,bytesV,V.cells,V.stays,Orc.nothing,T4,b4])
    exact ⟨_, (Beside.refl hsub).set (o := ⟨3, 1, [vI 0]⟩) a4, rfl⟩
  · rintro σ' ⟨hn, rfl⟩
    have hpm : parR l a = -1 := by
      by_cases h0 : 0 ≤ parR l a
      · obtain ⟨g, _, hu⟩ := ups_pos (l := l) (f := l.length + 1) h0 (by omega)
        rw [hu] at hn; simp [upsV] at hn
      · omega
    refine Runs.mix 5 ?_
    (refine Runs.of_step Orc.nothing 300 ?_; simp -implicitDefEqProofs only [BB,seval,← decide_not,okind,vpre,vpure,intBin,intPre,strBin,strPre,popTo,argSlots,fldV,fldAV,subCells,idxVV,idxAAV,idxSV,sliceV,sliceSV,boundV,szIs,storeOp,storeS,setRowV,eff,extV,buildV,splice,eqSV,fitsL,eqCells,eqCell,minmaxV,capV,binBV,nilCheckV,bytesV,V.cells,V.stays,Orc.nothing,S4,a4])
    rw [hpm]
    exact RetV.pure (s1.updK f4) rfl
  · intro id h; cases h
  · rintro pre σ' _ ⟨_, rfl⟩
    refine Runs.mix 5 ?_
    (refine Runs.of_step Orc.nothing 300 ?_; simp -implicitDefEqProofs only [BB,seval,← decide_not,okind,vpre,vpure,intBin,intPre,strBin,strPre,popTo,argSlots,fldV,fldAV,subCells,idxVV,idxAAV,idxSV,sliceV,sliceSV,boundV,szIs,storeOp,storeS,setRowV,eff,extV,buildV,splice,eqSV,fitsL,eqCells,eqCell,minmaxV,capV,binBV,nilCheckV,bytesV,V.cells,V.stays,Orc.nothing,S4,upd_same])
    exact RetV.pure (s1.updK f4) rfl
end Go.Vc
namespace Go.Vc
open Go.Proofs
set_option maxRecDepth 100000 in
theorem outcomes_c : PFun Tryd.prog 25 [] (.agg [.nilfn, .fn 43 [], .fn 44 []]) := fun σ => by
  refine Contract.of_runs Tryd.func25 e25 k25 (by simp [c25]) ?_
  refine Runs.mix 2 ?_
  (refine Runs.of_step Orc.nothing 300 ?_; simp -implicitDefEqProofs only [BB,seval,← decide_not,okind,vpre,vpure,intBin,intPre,strBin,strPre,popTo,argSlots,fldV,fldAV,subCells,idxVV,idxAAV,idxSV,sliceV,sliceSV,boundV,szIs,storeOp,storeS,setRowV,eff,extV,buildV,splice,eqSV,fitsL,eqCells,eqCell,minmaxV,capV,binBV,nilCheckV,bytesV,V.cells,V.stays,Orc.nothing,c25])
  refine effR_new fun id1 σ1 s1 a1 f1 => ?_
  simp -implicitDefEqProofs only [BB,seval,← decide_not,okind,vpre,vpure,intBin,intPre,strBin,strPre,popTo,argSlots,fldV,fldAV,subCells,idxVV,idxAAV,idxSV,sliceV,sliceSV,boundV,szIs,storeOp,storeS,setRowV,eff,extV,buildV,splice,eqSV,fitsL,eqCells,eqCell,minmaxV,capV,binBV,nilCheckV,bytesV,V.cells,V.stays,a1]
  refine RetV.pure (s1.updK f1) rfl
def restyle (l : List Nd) (p : Nat) (s : Sty) : List Nd := match l[p]? with
  | some x => l.set p { x with st := s }
  | none => l
theorem restyle_length (l : List Nd) (p : Nat) (s : Sty) : (restyle l p s).length = l.length := by
  unfold restyle
  split <;> simp
def styleR (l : List Nd) (x : Ed) : Option (List Nd) :=
  if blockR l x.pos = false ∨ x.into ≠ 0 ∨ x.many ≠ 0 ∨ 0 < x.sub.length then none else some (restyle l x.pos.toNat x.st)
def optV (o : Option (List Nd)) : V := encNs (o.getD [])
set_option maxRecDepth 100000 in
theorem style_c (x : Ed) (l : List Nd) (hl : Sml l) : PFun Tryd.prog 44 [encH x l] (.tup [optV (styleR l x), .bool (styleR l x).isSome]) := fun σ => by
  have hl1 := hl.1
  refine Contract.of_runs Tryd.func44 e44 k44 (by simp [c44]) ?_
  refine Runs.mix 5 ?_
  (refine Runs.of_step Orc.nothing 300 ?_; simp -implicitDefEqProofs only [BB,seval,← decide_not,okind,vpre,vpure,intBin,intPre,strBin,strPre,popTo,argSlots,fldV,fldAV,subCells,idxVV,idxAAV,idxSV,sliceV,sliceSV,boundV,szIs,storeOp,storeS,setRowV,eff,extV,buildV,splice,eqSV,fitsL,eqCells,eqCell,minmaxV,capV,binBV,nilCheckV,bytesV,V.cells,V.stays,Orc.nothing,c44,encH,encNs_cells,encNs_stays])
  refine effR_new fun id1 σ1 s1 a1 f1 => ?_
  simp -implicitDefEqProofs only [BB,seval,← decide_not,okind,vpre,vpure,intBin,intPre,strBin,strPre,popTo,argSlots,fldV,fldAV,subCells,idxVV,idxAAV,idxSV,sliceV,sliceSV,boundV,szIs,storeOp,storeS,setRowV,eff,extV,buildV,splice,eqSV,fitsL,eqCells,eqCell,minmaxV,capV,binBV,nilCheckV,bytesV,V.cells,V.stays,a1,encNs_cells,encNs_stays]
  refine Runs.pcall rfl rfl rfl (block9_c x l _ _) ?_
  have hnone : styleR l x = none → RetV (.tup [.nils, .bool false]) σ1 fun r σ' => r = .tup [optV (styleR l x), .bool (styleR l x).isSome] ∧ σ' = σ := fun h => by
    rw [h]
    exact ⟨_, σ, s1, Wk.tup (by simp only [WkL]; exact ⟨Wk.nils 20, Wk.refl s1 _, trivial⟩), rfl, rfl⟩
  cases hbk : blockR l x.pos
  · (refine Runs.of_step Orc.nothing 300 ?_; simp -implicitDefEqProofs only [BB,seval,← decide_not,okind,vpre,vpure,intBin,intPre,strBin,strPre,popTo,argSlots,fldV,fldAV,subCells,idxVV,idxAAV,idxSV,sliceV,sliceSV,boundV,szIs,storeOp,storeS,setRowV,eff,extV,buildV,splice,eqSV,fitsL,eqCells,eqCell,minmaxV,capV,binBV,nilCheckV,bytesV,V.cells,V.stays,Orc.nothing,hbk,a1,encNs_cells,encNs_stays])
    refine hnone ?_
    rw [styleR, if_pos (.inl hbk)]
  · (refine Runs.of_step Orc.nothing 300 ?_; simp -implicitDefEqProofs only [BB,seval,← decide_not,okind,vpre,vpure,intBin,intPre,strBin,strPre,popTo,argSlots,fldV,fldAV,subCells,idxVV,idxAAV,idxSV,sliceV,sliceSV,boundV,szIs,storeOp,storeS,setRowV,eff,extV,buildV,splice,eqSV,fitsL,eqCells,eqCell,minmaxV,capV,binBV,nilCheckV,bytesV,V.cells,V.stays,Orc.nothing,hbk,a1,encNs_cells,encNs_stays,lenV_encNs])
    have hb2 := hbk
    simp only [blockR,Bool.and_eq_true] at hb2
    have hp := hasI_iff.1 hb2.1
    have hlt : x.pos.toNat < l.length := by omega
    refine And.intro (fun c1 => And.intro (fun c2 => And.intro (fun c3 => ?_) (fun c3 => ?_)) (fun c2 => ?_)) (fun c1 => ?_)
    · refine hnone ?_
      rw [styleR, if_pos (.inr (.inr (.inr (by omega))))]
    · have hsome : styleR l x = some (restyle l x.pos.toNat x.st) := by
        rw [styleR, if_neg]
        rintro (h | h | h | h)
        · rw [hbk] at h; cases h
        · omega
        · omega
        · omega
      rw [hsome]
      refine Runs.call rfl rfl rfl (own9_o l hl _) ?_
      rintro r σ2 ⟨hsub, hout⟩
      have a1' := hsub _ _ a1
      rcases hout with ⟨rfl, hr0⟩ | ⟨id, rfl, ho, hk⟩
      · have : l = [] := by cases l with | nil => rfl | cons a b => simp at hr0
        subst this
        simp at hlt
      · rw [List.length_map]
        have hrow : (l.map encN)[x.pos.toNat]? = some (.agg (Nd.cells l[x.pos.toNat])) := by simp [hlt, encN]
        have hc : 0 ≤ x.pos ∧ x.pos < (l.length : Int) := hp
        have hk' : σ1 id = none := hk
        have hid1 : id1 ≠ id := ne_new a1 hk'
        have hre : (restyle l x.pos.toNat x.st).map encN = (l.map encN).set x.pos.toNat (encN { l[x.pos.toNat] with st := x.st }) := by
          rw [restyle]
          simp only [List.getElem?_eq_getElem hlt]
          rw [List.map_set]
        generalize l[x.pos.toNat] = y at *
        simp only [encN,Nd.cells] at hre
        (refine Runs.of_step Orc.nothing 300 ?_; simp -implicitDefEqProofs only [BB,seval,← decide_not,okind,vpre,vpure,intBin,intPre,strBin,strPre,popTo,argSlots,fldV,fldAV,subCells,idxVV,idxAAV,idxSV,sliceV,sliceSV,boundV,szIs,storeOp,storeS,setRowV,eff,extV,buildV,splice,eqSV,fitsL,eqCells,eqCell,minmaxV,capV,binBV,nilCheckV,bytesV,V.cells,V.stays,Orc.nothing,a1',ho,hc,hrow,Nd.cells,encNs_cells,encNs_stays])
        rw [← hre]
        have hn : l.length = ((restyle l x.pos.toNat x.st).map encN).length := by rw [List.length_map, restyle_length]
        have hs3 : SubStore σ (upd σ2 id ⟨42, 20, (restyle l x.pos.toNat x.st).map encN⟩) := (s1.trans hsub).updK (s1.none hk')
        have hv := (OutV.new (K := σ) (e := 42) (sz := 20) hn (upd_same (σ := σ2) (id := id)) (s1.none hk')).wk (SubStore.refl σ) hs3
        exact ⟨_, σ, hs3, Wk.tup (by simp only [WkL]; exact ⟨hv, Wk.refl hs3 _, trivial⟩), rfl, rfl⟩
    · refine hnone ?_
      rw [styleR, if_pos (.inr (.inr (.inl (by omega))))]
    · refine hnone ?_
      rw [styleR, if_pos (.inr (.inl (by omega)))]
end Go.Vc
namespace Go.Vc
open Go.Proofs
section
variable {P : Program} {n : Nat} {Q : St → Prop} {k : List It}
theorem Go.pcall {d : Option Nat} {fx : VX} {xs : List VX} {l : List VIns} {s : Nat → V} {σ : Store} {f : FuncId} {caps : List V} {v : V}
    (hf : fx.ev s = .fn f caps) (hc : PFun P f (xs.map (·.ev s) ++ caps) v) (h : Go P n (.d l k) ⟨putO s d v, σ⟩ Q) :
    Go P n (.d (⟨d, .call fx xs, none⟩ :: l) k) ⟨s, σ⟩ Q := by
  refine T_true (st := ⟨s, σ⟩) (i := ⟨d, .call fx xs, none⟩) rfl ?_
  exact ⟨f, caps, v, hf, fun σ1 _ => hc σ1, h⟩
end
theorem sliceV_from {σ : Store} {l : List Nd} {s : Int} (h1 : 0 ≤ s) (h2 : s ≤ l.length) :
    sliceV σ 20 (encNs l) (some (.int .i64 s)) none none = some (encNs (l.drop s.toNat)) := by
  simp only [encNs,sliceV,boundV,List.length_map]
  rw [if_pos ⟨h1, h2, Int.le_refl _, Int.le_refl _, trivial⟩]
  simp only [V.sl.injEq,Option.some.injEq,true_and]
  rw [List.map_drop, List.take_of_length_le]
  simp
def bump (m : Int) (p : Nat) (out : List Nd) : List Nd := match out[p]? with
  | some x => out.set p { x with size := x.size + m }
  | none => out
theorem bump_length (m : Int) (p : Nat) (out : List Nd) : (bump m p out).length = out.length := by
  unfold bump; split <;> simp
theorem bump_get {m : Int} {p i : Nat} {out : List Nd} (h : i ≠ p) : (bump m p out)[i]? = out[i]? := by
  unfold bump; split
  · rw [List.getElem?_set_ne (by omega)]
  · rfl
def bumps (m : Int) : List Int → List Nd → List Nd
  | [], out => out
  | p :: ps, out => bumps m ps (bump m p.toNat out)
theorem bumps_length (m : Int) : ∀ (ps : List Int) (out : List Nd), (bumps m ps out).length = out.length
  | [], _ => rfl
  | p :: ps, out => by rw [bumps, bumps_length m ps, bump_length]
def swapL (l : List Nd) (x : Ed) (to : Int) : List Nd :=
  bumps ((x.sub.length : Int) - (to - x.pos)) (ups l (l.length + 1) x.into) (l.take x.pos.toNat ++ x.sub ++ l.drop to.toNat)
def swapR (l : List Nd) (x : Ed) : Option (List Nd) :=
  if (goesR l x.into x.pos x.many).2.2 = false ∨ isB x.sub = false ∨ x.st ≠ Sty.zero then none else some (swapL l x (goesR l x.into x.pos x.many).2.1)
set_option maxRecDepth 100000 in
theorem swap_c (x : Ed) (l : List Nd) (hl : Sml l) (hb : isB l = true) (hx : Sml x.sub) : PFun Tryd.prog 43 [encH x l] (.tup [optV (swapR l x), .bool (swapR l x).isSome]) := fun σ => by
  have hl1 := hl.1
  have hx1 := hx.1
  refine Contract.of_runs Tryd.func43 e43 k43 (by simp [c43]) ?_
  refine Runs.mix 12 ?_
  (refine Runs.of_step Orc.nothing 300 ?_; simp -implicitDefEqProofs only [BB,seval,← decide_not,okind,vpre,vpure,intBin,intPre,strBin,strPre,popTo,argSlots,fldV,fldAV,subCells,idxVV,idxAAV,idxSV,sliceV,sliceSV,boundV,szIs,storeOp,storeS,setRowV,eff,extV,buildV,splice,eqSV,fitsL,eqCells,eqCell,minmaxV,capV,binBV,nilCheckV,bytesV,V.cells,V.stays,Orc.nothing,c43,encH,encNs_cells,encNs_stays])
  refine effR_new fun id1 σ1 s1 a1 f1 => ?_
  simp -implicitDefEqProofs only [BB,seval,← decide_not,okind,vpre,vpure,intBin,intPre,strBin,strPre,popTo,argSlots,fldV,fldAV,subCells,idxVV,idxAAV,idxSV,sliceV,sliceSV,boundV,szIs,storeOp,storeS,setRowV,eff,extV,buildV,splice,eqSV,fitsL,eqCells,eqCell,minmaxV,capV,binBV,nilCheckV,bytesV,V.cells,V.stays,a1,encNs_cells,encNs_stays]
  have hnone : swapR l x = none → RetV (.tup [.nils, .bool false]) σ1 fun r σ' => r = .tup [optV (swapR l x), .bool (swapR l x).isSome] ∧ σ' = σ := fun h => by
    rw [h]
    exact ⟨_, σ, s1, Wk.tup (by simp only [WkL]; exact ⟨Wk.nils 20, Wk.refl s1 _, trivial⟩), rfl, rfl⟩
  have hgc := goes_c x l hl.fine hb
  rcases hg : goesR l x.into x.pos x.many with ⟨fr, to, ok⟩
  rw [hg] at hgc
  refine Runs.pcall rfl rfl rfl (hgc _) ?_
  cases ok
  · (refine Runs.of_step Orc.nothing 300 ?_; simp -implicitDefEqProofs only [BB,seval,← decide_not,okind,vpre,vpure,intBin,intPre,strBin,strPre,popTo,argSlots,fldV,fldAV,subCells,idxVV,idxAAV,idxSV,sliceV,sliceSV,boundV,szIs,storeOp,storeS,setRowV,eff,extV,buildV,splice,eqSV,fitsL,eqCells,eqCell,minmaxV,capV,binBV,nilCheckV,bytesV,V.cells,V.stays,Orc.nothing,a1,encNs_cells,encNs_stays])
    exact hnone (by rw [swapR, if_pos (.inl (by rw [hg]))])
  · (refine Runs.of_step Orc.nothing 300 ?_; simp -implicitDefEqProofs only [BB,seval,← decide_not,okind,vpre,vpure,intBin,intPre,strBin,strPre,popTo,argSlots,fldV,fldAV,subCells,idxVV,idxAAV,idxSV,sliceV,sliceSV,boundV,szIs,storeOp,storeS,setRowV,eff,extV,buildV,splice,eqSV,fitsL,eqCells,eqCell,minmaxV,capV,binBV,nilCheckV,bytesV,V.cells,V.stays,Orc.nothing,a1,encNs_cells,encNs_stays])
    refine Runs.pcall rfl rfl rfl (isv_c x.sub hx.fine _) ?_
    cases hbs : isB x.sub
    · (refine Runs.of_step Orc.nothing 300 ?_; simp -implicitDefEqProofs only [BB,seval,← decide_not,okind,vpre,vpure,intBin,intPre,strBin,strPre,popTo,argSlots,fldV,fldAV,subCells,idxVV,idxAAV,idxSV,sliceV,sliceSV,boundV,szIs,storeOp,storeS,setRowV,eff,extV,buildV,splice,eqSV,fitsL,eqCells,eqCell,minmaxV,capV,binBV,nilCheckV,bytesV,V.cells,V.stays,Orc.nothing,a1,encNs_cells,encNs_stays])
      exact hnone (by rw [swapR, if_pos (.inr (.inl hbs))])
    · (refine Runs.of_step Orc.nothing 300 ?_; simp -implicitDefEqProofs only [BB,seval,← decide_not,okind,vpre,vpure,intBin,intPre,strBin,strPre,popTo,argSlots,fldV,fldAV,subCells,idxVV,idxAAV,idxSV,sliceV,sliceSV,boundV,szIs,storeOp,storeS,setRowV,eff,extV,buildV,splice,eqSV,fitsL,eqCells,eqCell,minmaxV,capV,binBV,nilCheckV,bytesV,V.cells,V.stays,Orc.nothing,a1,encNs_cells,encNs_stays,isZero_eq])
      refine And.intro (fun hz => ?_) (fun hz => ?_)
      · exact hnone (by rw [swapR, if_pos (.inr (.inr hz))])
      · have hz' : x.st = Sty.zero := Classical.not_not.1 hz
        have hsome : swapR l x = some (swapL l x to) := by
          rw [swapR, if_neg]
          · rw [hg]
          · rintro (h | h | h)
            · rw [hg] at h; cases h
            · rw [hbs] at h; cases h
            · exact h hz'
        rw [hsome]
        obtain ⟨rfl, g1, g2, g3, g4, g5, g6, _⟩ := goneR_facts hb hg
        refine Runs.call rfl rfl rfl (own9_o l hl _) ?_
        rintro r σ2 ⟨hsub2, hout⟩
        simp only at hsub2 hout
        have a10 := a1
        have a1 := hsub2 _ _ a1
        have hlen := hout.len
        rw [List.length_map] at hlen
        have hnat : ((x.pos.toNat : Nat) : Int) = x.pos := by omega
        have hpl : x.pos.toNat ≤ l.length := by omega
        have hpre : ∃ v, sliceV σ2 20 r none (some (vI x.pos)) (some (vI x.pos)) = some v ∧ ∃ idA, dstRows σ2 42 20 v = some ((l.take x.pos.toNat).map encN, idA) ∧ SubStore σ1 (delO σ2 idA) := by
          rcases hout with ⟨rfl, hr0⟩ | ⟨id, rfl, ho, hk⟩
          · have hl0 : l = [] := by cases l with | nil => rfl | cons a b => simp at hr0
            subst hl0
            have hp0 : x.pos = 0 := by simp at g3; omega
            rw [hp0]
            exact ⟨.nils, rfl, none, rfl, hsub2⟩
          · refine ⟨.own id 0 x.pos.toNat, ?_, some id, ?_, hsub2.delK hk⟩
            · simp only [sliceV,boundV,szIs,ho,List.length_map]
              rw [if_pos ⟨by omega, by omega, by omega, by omega, by simp⟩]
              simp
            · simp only [dstRows,ho,List.length_map]
              rw [if_pos ⟨trivial, trivial, trivial, hpl⟩, List.map_take]
        obtain ⟨v, hv, idA, hd, hdel⟩ := hpre
        (refine Runs.of_step Orc.nothing 300 ?_; simp -implicitDefEqProofs only [BB,seval,← decide_not,okind,vpre,vpure,intBin,intPre,strBin,strPre,popTo,argSlots,fldV,fldAV,subCells,idxVV,idxAAV,idxSV,sliceSV,boundV,szIs,storeOp,storeS,setRowV,eff,extV,buildV,splice,eqSV,fitsL,eqCells,eqCell,minmaxV,capV,binBV,nilCheckV,bytesV,V.cells,V.stays,Orc.nothing,a1,encNs_cells,encNs_stays,hv])
        refine Go.pcall rfl (own9_c x.sub hx) ?_
        have hlx : Sml (l.drop to.toNat) := ⟨by simp; omega, fun y hy => hl.2 y (List.mem_of_mem_drop hy)⟩
        have hsrc : ∀ (σ : Store) (l : List Nd), srcRows σ 20 (encNs l) = some (l.map encN) := fun σ l => by simp [encNs, srcRows]
        have hb1 : ((l.take x.pos.toNat).length + x.sub.length) * 177 ≤ 140737488355328 := by simp; omega
        (refine Go.of_step Orc.nothing 300 _ _ ?_; simp -implicitDefEqProofs only [BB,seval,← decide_not,okind,vpre,vpure,intBin,intPre,strBin,strPre,popTo,argSlots,fldV,fldAV,subCells,idxVV,idxAAV,idxSV,sliceV,sliceSV,boundV,szIs,storeOp,storeS,setRowV,eff,extV,buildV,splice,eqSV,fitsL,eqCells,eqCell,minmaxV,capV,binBV,nilCheckV,bytesV,V.cells,V.stays,Orc.nothing,a1,encNs_cells,encNs_stays,hd,hsrc,List.length_map,hb1])
        refine effD_put fun id2 σ3 s3 a2 f2 => ?_
        have hs3 := hdel.trans s3
        have a1 := hs3 _ _ a10
        have hto : to.toNat ≤ l.length := by omega
        have hsl := fun σ => sliceV_from (σ := σ) (l := l) (s := to) (by omega) g3
        simp -implicitDefEqProofs only [BB,seval,← decide_not,okind,vpre,vpure,intBin,intPre,strBin,strPre,popTo,argSlots,fldV,fldAV,subCells,idxVV,idxAAV,idxSV,sliceSV,boundV,szIs,storeOp,storeS,setRowV,eff,extV,buildV,splice,eqSV,fitsL,eqCells,eqCell,minmaxV,capV,binBV,nilCheckV,bytesV,V.cells,V.stays,a1,encNs_cells,encNs_stays,hsl]
        refine Go.pcall rfl (own9_c (l.drop to.toNat) hlx) ?_
        have hn2 : (l.take x.pos.toNat).length + x.sub.length = ((l.take x.pos.toNat).map encN ++ x.sub.map encN).length := by simp
        obtain ⟨idB, hd2, hdel2⟩ := (OutV.new (K := σ1) (e := 42) (sz := 20) hn2 a2 (hsub2.none f2)).dst (SubStore.refl _)
        have hb2 : (((l.take x.pos.toNat).length + x.sub.length) + (l.drop to.toNat).length) * 177 ≤ 140737488355328 := by simp; omega
        (refine Go.of_step Orc.nothing 300 _ _ ?_; simp -implicitDefEqProofs only [BB,seval,← decide_not,okind,vpre,vpure,intBin,intPre,strBin,strPre,popTo,argSlots,fldV,fldAV,subCells,idxVV,idxAAV,idxSV,sliceV,sliceSV,boundV,szIs,storeOp,storeS,setRowV,eff,extV,buildV,splice,eqSV,fitsL,eqCells,eqCell,minmaxV,capV,binBV,nilCheckV,bytesV,V.cells,V.stays,Orc.nothing,a1,encNs_cells,encNs_stays,hd2,hsrc,List.length_map,List.length_append,hb2])
        refine effD_put fun id3 σ4 s4 a3 f3 => ?_
        have hs4 := (hdel2 σ1 (SubStore.refl _) σ3 hs3).trans s4
        have a1 := hs4 _ _ a10
        have hf3 := hs3.none f3
        simp -implicitDefEqProofs only [BB,seval,← decide_not,okind,vpre,vpure,intBin,intPre,strBin,strPre,popTo,argSlots,fldV,fldAV,subCells,idxVV,idxAAV,idxSV,sliceV,sliceSV,boundV,szIs,storeOp,storeS,setRowV,eff,extV,buildV,splice,eqSV,fitsL,eqCells,eqCell,minmaxV,capV,binBV,nilCheckV,bytesV,V.cells,V.stays,a1,encNs_cells,encNs_stays,lenV_encNs]
        refine ⟨inR_i64 (by omega) (by omega), inR_i64 (by omega) (by omega), ?_⟩
        generalize hm : (x.sub.length : Int) - (to - x.pos) = more at *
        generalize ho0 : l.take x.pos.toNat ++ x.sub ++ l.drop to.toNat = out0 at *
        have hsw : swapL l x to = bumps more (ups l (l.length + 1) x.into) out0 := by rw [swapL, hm, ho0]
        have hrows : (l.take x.pos.toNat).map encN ++ x.sub.map encN ++ (l.drop to.toNat).map encN = out0.map encN := by rw [← ho0]; simp
        have hlen0 : out0.length = (l.take x.pos.toNat).length + x.sub.length + (l.drop to.toNat).length := by rw [← ho0]; simp only [List.length_append]
        have hlen1 : (x.pos : Int) ≤ out0.length := by rw [hlen0]; simp; omega
        have hget0 : ∀ i : Nat, (i : Int) < x.pos → out0[i]? = l[i]? := fun i hi => by
          rw [← ho0, List.append_assoc, List.getElem?_append_left (by simp; omega), List.getElem?_take, if_pos (by omega)]
        rw [hsw]
        refine Runs.loop (fun m st => ∃ (q : Int) (f : Nat) (out : List Nd), m = (q + 1).toNat ∧ -1 ≤ q ∧ q < x.pos ∧ q < f ∧ out.length = out0.length ∧ bumps more (ups l (l.length + 1) x.into) out0 = bumps more (ups l f q) out ∧
          (∀ i : Nat, (i : Int) ≤ q → out[i]? = l[i]?) ∧ SubStore σ1 st.σ ∧ OutV σ1 st.σ 42 20 (st.s 8) (out.map encN) ∧ st.s 1 = .ptr id1 0 0 ∧ st.s 9 = vI more ∧ st.s 10 = vI q) (x.into + 1).toNat ?_ ?_
        · refine ⟨x.into, l.length + 1, out0, rfl, g4, by omega, by omega, rfl, rfl, fun i hi => hget0 i (by omega), hs4, ?_, rfl, rfl, rfl⟩
          exact OutV.new (by simp [hlen0]) (a3.trans (by rw [hrows])) hf3
        · rintro m ⟨s, σ'⟩ ⟨q, f, out, rfl, q1, q2, qf, hol, heq, hget, hsub, hout, h1, h9, h10⟩
          simp only at hsub hout h1 h9 h10
          have a1 := hsub _ _ a10
          refine Runs.mix 12 ?_
          (refine Runs.of_step Orc.nothing 300 ?_; simp -implicitDefEqProofs only [BB,seval,← decide_not,okind,vpre,vpure,intBin,intPre,strBin,strPre,popTo,argSlots,fldV,fldAV,subCells,idxVV,idxAAV,idxSV,sliceV,sliceSV,boundV,szIs,storeOp,storeS,setRowV,eff,extV,buildV,splice,eqSV,fitsL,eqCells,eqCell,minmaxV,capV,binBV,nilCheckV,bytesV,V.cells,V.stays,Orc.nothing,h1,h9,h10])
          refine And.intro (fun hq => ?_) (fun hq => ?_)
          · obtain ⟨g, rfl, hu⟩ := ups_pos (l := l) (f := f) (by omega : (0:Int) ≤ q) (by omega)
            rw [hu, bumps] at heq
            have hqn : q.toNat < l.length := by omega
            have hqo : q.toNat < out.length := by omega
            have hge := hget q.toNat (by omega)
            rw [List.getElem?_eq_getElem hqn, List.getElem?_eq_getElem hqo] at hge
            have hge : out[q.toNat] = l[q.toNat] := by simpa using hge
            have hsz := szI_bound hb hqn
            have hse := szI_eq hqn
            rcases hout with ⟨hv8, hr0⟩ | ⟨id, hv8, ho, hk⟩
            · have : out = [] := by cases out with | nil => rfl | cons a b => simp at hr0
              rw [this] at hqo; simp at hqo
            · have hrow : (out.map encN)[q.toNat]? = some (.agg (Nd.cells out[q.toNat])) := by simp [hqo, encN]
              have hbu : bump more q.toNat out = out.set q.toNat { out[q.toNat] with size := out[q.toNat].size + more } := by
                rw [bump, List.getElem?_eq_getElem hqo]
              have hc : 0 ≤ q ∧ q < (out.length : Int) := by omega
              have hre : (bump more q.toNat out).map encN = (out.map encN).set q.toNat (encN { out[q.toNat] with size := out[q.toNat].size + more }) := by
                rw [hbu, List.map_set]
              have hszo : out[q.toNat].size = szI l q.toNat := by rw [hge, hse]
              rw [List.length_map] at hv8
              have hne : id1 ≠ id := by
                rintro rfl
                rw [a10] at hk; cases hk
              generalize out[q.toNat] = y at *
              simp only [encN,Nd.cells] at hre
              simp -implicitDefEqProofs only [BB,seval,← decide_not,okind,vpre,vpure,intBin,intPre,strBin,strPre,popTo,argSlots,fldV,fldAV,subCells,idxVV,idxAAV,idxSV,sliceV,sliceSV,boundV,szIs,storeOp,storeS,setRowV,eff,extV,buildV,splice,eqSV,fitsL,eqCells,eqCell,minmaxV,capV,binBV,nilCheckV,bytesV,V.cells,V.stays,h1,hv8,h9,h10,ho,hc,hrow,Nd.cells,hszo,a1,upd_ne hne,encNs_cells,encNs_stays]
              have hpq := parR_range l q.toNat
              refine ⟨inR_i64 (by omega) (by omega), ?_⟩
              have hpc := parent91_c l hl.fine hb q.toNat hqn
              rw [show ((q.toNat : Nat) : Int) = q by omega] at hpc
              refine Runs.pcall rfl rfl rfl (hpc _) ?_
              (refine Runs.of_step Orc.nothing 300 ?_; simp -implicitDefEqProofs only [BB,seval,← decide_not,okind,vpre,vpure,intBin,intPre,strBin,strPre,popTo,argSlots,fldV,fldAV,subCells,idxVV,idxAAV,idxSV,sliceV,sliceSV,boundV,szIs,storeOp,storeS,setRowV,eff,extV,buildV,splice,eqSV,fitsL,eqCells,eqCell,minmaxV,capV,binBV,nilCheckV,bytesV,V.cells,V.stays,Orc.nothing])
              rw [hszo] at hre
              rw [← hre]
              have hid1 : σ1 id = none := hk
              refine ⟨_, ?_, parR l q.toNat, g, bump more q.toNat out, rfl, by omega, by omega, by omega, by rw [bump_length, hol], heq, ?_, hsub.updK hid1, ?_, ?_, ?_, ?_⟩
              · omega
              · intro i hi
                exact (bump_get (m := more) (p := q.toNat) (i := i) (out := out) (by omega)).trans (hget i (by omega))
              · rw [hv8]; exact OutV.new (rows := (bump more q.toNat out).map encN) (by rw [List.length_map, bump_length]) upd_same hid1
              all_goals first | exact h1 | exact h9 | rfl | simp
          · have hq1 : q = -1 := by omega
            subst hq1
            rw [ups_neg (p := -1) (by omega), bumps] at heq
            rw [heq]
            have hss := s1.trans hsub
            have hw := hout.wk (K' := σ) s1 hss
            rcases hout with ⟨hv8, hr0⟩ | ⟨id, hv8, ho, hk⟩
            · rw [hv8] at hw
              simp -implicitDefEqProofs only [BB,seval,← decide_not,okind,vpre,vpure,intBin,intPre,strBin,strPre,popTo,argSlots,fldV,fldAV,subCells,idxVV,idxAAV,idxSV,sliceV,sliceSV,boundV,szIs,storeOp,storeS,setRowV,eff,extV,buildV,splice,eqSV,fitsL,eqCells,eqCell,minmaxV,capV,binBV,nilCheckV,bytesV,V.cells,V.stays,h1,hv8,h9,h10]
              exact ⟨_, σ, hss, Wk.tup (by simp only [WkL]; exact ⟨hw, Wk.refl hss _, trivial⟩), rfl, rfl⟩
            · rw [hv8] at hw
              simp -implicitDefEqProofs only [BB,seval,← decide_not,okind,vpre,vpure,intBin,intPre,strBin,strPre,popTo,argSlots,fldV,fldAV,subCells,idxVV,idxAAV,idxSV,sliceV,sliceSV,boundV,szIs,storeOp,storeS,setRowV,eff,extV,buildV,splice,eqSV,fitsL,eqCells,eqCell,minmaxV,capV,binBV,nilCheckV,bytesV,V.cells,V.stays,h1,hv8,h9,h10]
              exact ⟨_, σ, hss, Wk.tup (by simp only [WkL]; exact ⟨hw, Wk.refl hss _, trivial⟩), rfl, rfl⟩
end Go.Vc
namespace Go.Vc
open Go.Proofs
theorem restyle_sml {l : List Nd} {p : Nat} {s : Sty} (h : Sml l) : Sml (restyle l p s) := by
  refine ⟨by rw [restyle_length]; exact h.1, fun y hy => ?_⟩
  unfold restyle at hy
  split at hy
  · rename_i x hx
    rcases List.mem_or_eq_of_mem_set hy with hy | rfl
    · exact h.2 y hy
    · exact h.2 x (List.mem_of_getElem? hx)
  · exact h.2 y hy
theorem bump_words {m : Int} {p : Nat} {out : List Nd} {B : Nat} (h : ∀ x ∈ out, x.words.length ≤ B) : ∀ x ∈ bump m p out, x.words.length ≤ B := fun y hy => by
  unfold bump at hy
  split at hy
  · rename_i x hx
    rcases List.mem_or_eq_of_mem_set hy with hy | rfl
    · exact h y hy
    · exact h x (List.mem_of_getElem? hx)
  · exact h y hy
theorem bumps_words {m : Int} {B : Nat} : ∀ {ps : List Int} {out : List Nd}, (∀ x ∈ out, x.words.length ≤ B) → ∀ x ∈ bumps m ps out, x.words.length ≤ B
  | [], _, h => h
  | p :: ps, out, h => bumps_words (ps := ps) (bump_words h)
def Hlf (l : List Nd) : Prop := l.length ≤ 5000 ∧ ∀ x ∈ l, x.words.length ≤ 1000000000
theorem Hlf.sml {l : List Nd} (h : Hlf l) : Sml l := ⟨by have := h.1; omega, h.2⟩
theorem swapL_sml {l : List Nd} {x : Ed} {to : Int} (hl : Hlf l) (hx : Hlf x.sub) (h : x.pos ≤ to) (h0 : 0 ≤ x.pos) : Sml (swapL l x to) := by
  obtain ⟨h1, h2⟩ := hl
  obtain ⟨h3, h4⟩ := hx
  refine ⟨?_, bumps_words fun y hy => ?_⟩
  · rw [swapL, bumps_length]; simp; omega
  · simp only [List.mem_append] at hy
    rcases hy with (hy | hy) | hy
    · exact h2 y (List.mem_of_mem_take hy)
    · exact h4 y hy
    · exact h2 y (List.mem_of_mem_drop hy)
def outR (l : List Nd) (x : Ed) : Option (List Nd) := if x.kind = 1 then swapR l x else styleR l x
def doR (l : List Nd) (x : Ed) : Option (List Nd) :=
  if isB l = false ∨ x.kind < 1 ∨ 2 < x.kind then none else
  match outR l x with
  | none => none
  | some out => if isB out = true then some out else none
def errV {α : Type} (o : Option α) : V := if o.isSome then vI 0 else vI 4
theorem outR_sml {l out : List Nd} {x : Ed} (hl : Hlf l) (hb : isB l = true) (hx : Hlf x.sub) (h : outR l x = some out) : Sml out := by
  unfold outR at h
  split at h
  · rw [swapR] at h
    split at h
    · cases h
    · rename_i hn
      simp only [Option.some.injEq] at h
      subst h
      have h1 : (goesR l x.into x.pos x.many).2.2 = true := by
        cases hh : (goesR l x.into x.pos x.many).2.2
        · exact absurd (.inl hh) hn
        · rfl
      rcases hg : goesR l x.into x.pos x.many with ⟨fr, to, ok⟩
      rw [hg] at h1
      simp only at h1
      subst h1
      obtain ⟨rfl, g1, g2, g3, g4, _⟩ := goneR_facts hb hg
      exact swapL_sml hl hx g2 (by omega)
  · rw [styleR] at h
    split at h
    · cases h
    · simp only [Option.some.injEq] at h
      subst h
      exact restyle_sml hl.sml
set_option maxRecDepth 100000 in
theorem do_c (l : List Nd) (x : Ed) (hl : Hlf l) (hx : Hlf x.sub) : PFun Tryd.prog 8 [encNs l, encE x] (.tup [optV (doR l x), errV (doR l x)]) := fun σ => by
  have hl1 := hl.1
  refine Contract.of_runs Tryd.func8 e8 k8 (by simp [c8]) ?_
  refine Runs.mix 8 ?_
  (refine Runs.of_step Orc.nothing 300 ?_; simp -implicitDefEqProofs only [BB,seval,← decide_not,okind,vpre,vpure,intBin,intPre,strBin,strPre,popTo,argSlots,fldV,fldAV,subCells,idxVV,idxAAV,idxSV,sliceV,sliceSV,boundV,szIs,storeOp,storeS,setRowV,eff,extV,buildV,splice,eqSV,fitsL,eqCells,eqCell,minmaxV,capV,binBV,nilCheckV,bytesV,V.cells,V.stays,Orc.nothing,c8,encE,Ed.cells,encNs_cells,encNs_stays])
  refine effR_new fun id1 σ1 s1 a1 f1 => ?_
  simp -implicitDefEqProofs only [BB,seval,← decide_not,okind,vpre,vpure,intBin,intPre,strBin,strPre,popTo,argSlots,fldV,fldAV,subCells,idxVV,idxAAV,idxSV,sliceV,sliceSV,boundV,szIs,storeOp,storeS,setRowV,eff,extV,buildV,splice,eqSV,fitsL,eqCells,eqCell,minmaxV,capV,binBV,nilCheckV,bytesV,V.cells,V.stays,a1,encNs_cells,encNs_stays]
  have hnone : doR l x = none → RetV (.tup [.nils, vI 4]) σ1 fun r σ' => r = .tup [optV (doR l x), errV (doR l x)] ∧ σ' = σ := fun h => by
    rw [h]
    exact ⟨_, σ, s1, Wk.tup (by simp only [WkL]; exact ⟨Wk.nils 20, Wk.refl s1 _, trivial⟩), rfl, rfl⟩
  refine Runs.pcall rfl rfl rfl (isv_c l hl.sml.fine _) ?_
  cases hb : isB l
  · (refine Runs.of_step Orc.nothing 300 ?_; simp -implicitDefEqProofs only [BB,seval,← decide_not,okind,vpre,vpure,intBin,intPre,strBin,strPre,popTo,argSlots,fldV,fldAV,subCells,idxVV,idxAAV,idxSV,sliceV,sliceSV,boundV,szIs,storeOp,storeS,setRowV,eff,extV,buildV,splice,eqSV,fitsL,eqCells,eqCell,minmaxV,capV,binBV,nilCheckV,bytesV,V.cells,V.stays,Orc.nothing,a1,encNs_cells,encNs_stays])
    exact hnone (by rw [doR, if_pos (.inl hb)])
  · (refine Runs.of_step Orc.nothing 300 ?_; simp -implicitDefEqProofs only [BB,seval,← decide_not,okind,vpre,vpure,intBin,intPre,strBin,strPre,popTo,argSlots,fldV,fldAV,subCells,idxVV,idxAAV,idxSV,sliceV,sliceSV,boundV,szIs,storeOp,storeS,setRowV,eff,extV,buildV,splice,eqSV,fitsL,eqCells,eqCell,minmaxV,capV,binBV,nilCheckV,bytesV,V.cells,V.stays,Orc.nothing,a1,encNs_cells,encNs_stays])
    refine And.intro (fun c1 => And.intro (fun c2 => hnone (by rw [doR, if_pos (.inr (.inr (by omega)))])) (fun c2 => ?_)) (fun c1 => hnone (by rw [doR, if_pos (.inr (.inl (by omega)))]))
    refine Go.pcall rfl outcomes_c ?_
    have hdo : doR l x = match outR l x with
      | none => none
      | some out => if isB out = true then some out else none := by
      rw [doR, if_neg]
      rintro (h | h | h)
      · rw [hb] at h; cases h
      · omega
      · omega
    have key : ∃ f, (x.kind = 1 ∧ f = 43 ∨ x.kind = 2 ∧ f = 44) ∧ PFun Tryd.prog f [encH x l] (.tup [optV (outR l x), .bool (outR l x).isSome]) := by
      by_cases hk : x.kind = 1
      · exact ⟨43, .inl ⟨hk, rfl⟩, by rw [outR, if_pos hk]; exact swap_c x l hl.sml hb hx.sml⟩
      · exact ⟨44, .inr ⟨by omega, rfl⟩, by rw [outR, if_neg hk]; exact style_c x l hl.sml⟩
    obtain ⟨f, hf, hfc⟩ := key
    have hidx : idxVV false 3 1 (.agg [.nilfn, .fn 43 [], .fn 44 []]) (.int .i64 x.kind) = some (.fn f []) := by
      rcases hf with ⟨hk, rfl⟩ | ⟨hk, rfl⟩ <;> rw [hk] <;> rfl
    have hbu : buildV [.int .i64 0, .int .i64 0, .int .i64 0, .int .i64 0, .nils, .int .i64 0, .int .i64 0, .int .i64 0, .int .i64 0, .int .i64 0, .int .i64 0, .int .i64 0, .int .i64 0, .int .i64 0, .int .i64 0, .int .i64 0, .int .i64 0, .nils]
        [(0, 17, encE x), (17, 1, encNs l)] = some [.int .i64 x.kind, .int .i64 x.into, .int .i64 x.pos, .int .i64 x.many, encNs x.sub, .int .i64 x.st.top, .int .i64 x.st.bottom, .int .i64 x.st.padTop, .int .i64 x.st.padBottom, .int .i64 x.st.inset, .int .i64 x.st.orphans, .int .i64 x.st.widows, .int .i64 x.st.head, .int .i64 x.st.before, .int .i64 x.st.after, .int .i64 x.st.inside, .int .i64 x.st.clear, encNs l] := rfl
    simp only [encE,Ed.cells] at hbu
    (refine Go.of_step Orc.nothing 300 _ _ ?_; simp -implicitDefEqProofs only [BB,seval,← decide_not,okind,vpre,vpure,intBin,intPre,strBin,strPre,popTo,argSlots,fldV,fldAV,subCells,idxAAV,idxSV,sliceV,sliceSV,boundV,szIs,storeOp,storeS,setRowV,eff,extV,splice,eqSV,fitsL,eqCells,eqCell,minmaxV,capV,binBV,nilCheckV,bytesV,V.cells,V.stays,Orc.nothing,a1,encNs_cells,encNs_stays,hidx,hbu])
    refine Go.pcall rfl hfc ?_
    have hsml := fun out (h : outR l x = some out) => outR_sml hl hb hx h
    rw [hdo]
    rw [hdo] at hnone
    generalize outR l x = o at *
    cases o with
    | none =>
      (refine Go.of_step Orc.nothing 300 _ _ ?_; simp -implicitDefEqProofs only [BB,seval,← decide_not,okind,vpre,vpure,intBin,intPre,strBin,strPre,popTo,argSlots,fldV,fldAV,subCells,idxVV,idxAAV,idxSV,sliceV,sliceSV,boundV,szIs,storeOp,storeS,setRowV,eff,extV,buildV,splice,eqSV,fitsL,eqCells,eqCell,minmaxV,capV,binBV,nilCheckV,bytesV,V.cells,V.stays,Orc.nothing,a1,encNs_cells,encNs_stays,optV,Option.isSome_none,Option.getD_none])
      exact hnone rfl
    | some out =>
      (refine Go.of_step Orc.nothing 300 _ _ ?_; simp -implicitDefEqProofs only [BB,seval,← decide_not,okind,vpre,vpure,intBin,intPre,strBin,strPre,popTo,argSlots,fldV,fldAV,subCells,idxVV,idxAAV,idxSV,sliceV,sliceSV,boundV,szIs,storeOp,storeS,setRowV,eff,extV,buildV,splice,eqSV,fitsL,eqCells,eqCell,minmaxV,capV,binBV,nilCheckV,bytesV,V.cells,V.stays,Orc.nothing,a1,encNs_cells,encNs_stays,optV,Option.isSome_some,Option.getD_some])
      refine Runs.pcall rfl rfl rfl (isv_c out (hsml out rfl).fine _) ?_
      simp only at hnone ⊢
      cases hbo : isB out
      · rw [hbo] at hnone
        (refine Runs.of_step Orc.nothing 300 ?_; simp -implicitDefEqProofs only [BB,seval,← decide_not,okind,vpre,vpure,intBin,intPre,strBin,strPre,popTo,argSlots,fldV,fldAV,subCells,idxVV,idxAAV,idxSV,sliceV,sliceSV,boundV,szIs,storeOp,storeS,setRowV,eff,extV,buildV,splice,eqSV,fitsL,eqCells,eqCell,minmaxV,capV,binBV,nilCheckV,bytesV,V.cells,V.stays,Orc.nothing,a1])
        exact hnone (by simp)
      · (refine Runs.of_step Orc.nothing 300 ?_; simp -implicitDefEqProofs only [BB,seval,← decide_not,okind,vpre,vpure,intBin,intPre,strBin,strPre,popTo,argSlots,fldV,fldAV,subCells,idxVV,idxAAV,idxSV,sliceV,sliceSV,boundV,szIs,storeOp,storeS,setRowV,eff,extV,buildV,splice,eqSV,fitsL,eqCells,eqCell,minmaxV,capV,binBV,nilCheckV,bytesV,V.cells,V.stays,Orc.nothing,a1])
        exact RetV.pure s1 rfl
end Go.Vc
namespace Go.Vc
open Go.Proofs
def Ed.zero : Ed := ⟨0, 0, 0, 0, [], Sty.zero⟩
def stI (l : List Nd) (i : Nat) : Sty := ((l[i]?).map Nd.st).getD Sty.zero
theorem stI_eq {l : List Nd} {i : Nat} (h : i < l.length) : stI l i = l[i].st := by simp [stI, List.getElem?_eq_getElem h]
def cutL (l : List Nd) (a e : Int) : List Nd := (l.drop a.toNat).take (e.toNat - a.toNat)
def backR (l : List Nd) (x : Ed) : Ed :=
  if x.kind = 2 then ⟨2, 0, x.pos, 0, [], stI l x.pos.toNat⟩
  else ⟨1, x.into, x.pos, (kidsR x.sub (-1)).length, cutL l x.pos (goesR l x.into x.pos x.many).2.1, Sty.zero⟩
def backC (l : List Nd) (x : Ed) : Ed := if (doR l x).isSome then backR l x else Ed.zero
theorem wk_edN {σ σ' : Store} (h : SubStore σ' σ) (k i p m : Int) (s : Sty) : Wk σ σ' (.agg [.int .i64 k, .int .i64 i, .int .i64 p, .int .i64 m, .nils, .int .i64 s.top, .int .i64 s.bottom, .int .i64 s.padTop, .int .i64 s.padBottom, .int .i64 s.inset, .int .i64 s.orphans, .int .i64 s.widows, .int .i64 s.head, .int .i64 s.before, .int .i64 s.after, .int .i64 s.inside, .int .i64 s.clear]) (encE ⟨k, i, p, m, [], s⟩) := by
  simp only [encE,Ed.cells]
  refine Wk.agg ?_
  simp only [WkL]
  exact ⟨Wk.refl h _, Wk.refl h _, Wk.refl h _, Wk.refl h _, Wk.nils 20, Wk.refl h _, Wk.refl h _, Wk.refl h _, Wk.refl h _, Wk.refl h _, Wk.refl h _, Wk.refl h _, Wk.refl h _, Wk.refl h _, Wk.refl h _, Wk.refl h _, Wk.refl h _, trivial⟩
theorem doR_some {l out : List Nd} {x : Ed} (h : doR l x = some out) : isB l = true ∧ isB out = true ∧ outR l x = some out ∧ (x.kind = 1 ∨ x.kind = 2) := by
  rw [doR] at h
  split at h
  · cases h
  · rename_i hn
    have hb : isB l = true := by
      cases hb : isB l
      · exact absurd (.inl hb) hn
      · rfl
    split at h
    · cases h
    · rename_i o ho
      split at h
      · rename_i hbo
        simp only [Option.some.injEq] at h
        subst h
        exact ⟨hb, hbo, ho, by omega⟩
      · cases h
theorem swapR_some {l out : List Nd} {x : Ed} (h : swapR l x = some out) : ∃ to, goesR l x.into x.pos x.many = (x.pos, to, true) ∧ isB x.sub = true ∧ x.st = Sty.zero ∧ out = swapL l x to := by
  rw [swapR] at h
  split at h
  · cases h
  · rename_i hn
    simp only [Option.some.injEq] at h
    have h1 : (goesR l x.into x.pos x.many).2.2 = true := by
      cases hh : (goesR l x.into x.pos x.many).2.2
      · exact absurd (.inl hh) hn
      · rfl
    have h2 : isB x.sub = true := by
      cases hh : isB x.sub
      · exact absurd (.inr (.inl hh)) hn
      · rfl
    have h3 : x.st = Sty.zero := by
      by_cases hh : x.st = Sty.zero
      · exact hh
      · exact absurd (.inr (.inr hh)) hn
    have hgo : goesR l x.into x.pos x.many = ((goesR l x.into x.pos x.many).1, (goesR l x.into x.pos x.many).2.1, true) := by rw [← h1]
    have h4 : (goesR l x.into x.pos x.many).1 = x.pos := by
      rw [goesR] at h1 ⊢
      split
      · rename_i h5; rw [if_pos h5] at h1; cases h1
      · rename_i h5
        rw [if_neg h5] at h1
        split
        · rename_i h6; rw [if_pos h6] at h1; cases h1
        · rfl
    rw [h4] at hgo
    exact ⟨_, hgo, h2, h3, h.symm⟩
theorem styleR_some {l out : List Nd} {x : Ed} (h : styleR l x = some out) : blockR l x.pos = true ∧ x.into = 0 ∧ x.many = 0 ∧ x.sub = [] ∧ out = restyle l x.pos.toNat x.st := by
  rw [styleR] at h
  split at h
  · cases h
  · rename_i hn
    simp only [Option.some.injEq] at h
    have h1 : blockR l x.pos = true := by
      cases hh : blockR l x.pos
      · exact absurd (.inl hh) hn
      · rfl
    have h2 : x.sub = [] := by
      cases hs : x.sub with
      | nil => rfl
      | cons a b => exact absurd (.inr (.inr (.inr (by simp [hs])))) hn
    exact ⟨h1, by omega, by omega, h2, h.symm⟩
theorem blockR_lt {l : List Nd} {a : Int} (h : blockR l a = true) : 0 ≤ a ∧ a.toNat < l.length ∧ kdI l a.toNat = 1 := by
  simp only [blockR,Bool.and_eq_true,decide_eq_true_eq] at h
  have := hasI_iff.1 h.1
  exact ⟨this.1, by omega, h.2⟩
set_option maxRecDepth 100000 in
theorem back_c (l : List Nd) (x : Ed) (hl : Hlf l) (hx : Hlf x.sub) : PFun Tryd.prog 9 [encNs l, encE x] (.tup [encE (backC l x), errV (doR l x)]) := fun σ => by
  have hl1 := hl.1
  obtain ⟨res, hres⟩ : ∃ v, v = encE (backC l x) := ⟨_, rfl⟩
  rw [← hres]
  refine Contract.of_runs Tryd.func9 e9 k9 (by simp [c9]) ?_
  refine Runs.mix 12 ?_
  (refine Runs.of_step Orc.nothing 300 ?_; simp -implicitDefEqProofs only [BB,seval,← decide_not,okind,vpre,vpure,intBin,intPre,strBin,strPre,popTo,argSlots,fldV,fldAV,subCells,idxVV,idxAAV,idxSV,sliceV,sliceSV,boundV,szIs,storeOp,storeS,setRowV,eff,extV,buildV,splice,eqSV,fitsL,eqCells,eqCell,minmaxV,capV,binBV,nilCheckV,bytesV,V.cells,V.stays,Orc.nothing,c9,encE,Ed.cells,encNs_cells,encNs_stays])
  refine effR_new fun id1 σ1 s1 a1 f1 => ?_
  simp -implicitDefEqProofs only [BB,seval,← decide_not,okind,vpre,vpure,intBin,intPre,strBin,strPre,popTo,argSlots,fldV,fldAV,subCells,idxVV,idxAAV,idxSV,sliceV,sliceSV,boundV,szIs,storeOp,storeS,setRowV,eff,extV,buildV,splice,eqSV,fitsL,eqCells,eqCell,minmaxV,capV,binBV,nilCheckV,bytesV,V.cells,V.stays,a1,encNs_cells,encNs_stays]
  refine effR_new fun id2 σ2 s2 a2 f2 => ?_
  have n12 := ne_new a1 f2
  have a10 := s2 _ _ a1
  have hs := s1.trans s2
  simp -implicitDefEqProofs only [BB,seval,← decide_not,okind,vpre,vpure,intBin,intPre,strBin,strPre,popTo,argSlots,fldV,fldAV,subCells,idxVV,idxAAV,idxSV,sliceV,sliceSV,boundV,szIs,storeOp,storeS,setRowV,eff,extV,buildV,splice,eqSV,fitsL,eqCells,eqCell,minmaxV,capV,binBV,nilCheckV,bytesV,V.cells,V.stays,a10,a2,encNs_cells,encNs_stays]
  refine Runs.pcall rfl rfl rfl (do_c l x hl hx _) ?_
  have g2 := s1.none f2
  cases hd : doR l x with
  | none =>
    (refine Runs.of_step Orc.nothing 300 ?_; simp -implicitDefEqProofs only [BB,seval,← decide_not,okind,vpre,vpure,intBin,intPre,strBin,strPre,popTo,argSlots,fldV,fldAV,subCells,idxVV,idxAAV,idxSV,sliceV,sliceSV,boundV,szIs,storeOp,storeS,setRowV,eff,extV,buildV,splice,eqSV,fitsL,eqCells,eqCell,minmaxV,capV,binBV,nilCheckV,bytesV,V.cells,V.stays,Orc.nothing,errV,optV,Option.isSome_none,Option.getD_none,a10,a2,encNs_cells,encNs_stays])
    have hbc : backC l x = Ed.zero := by rw [backC, hd]; rfl
    rw [hbc] at hres
    have hsf := hs.updK g2 (o := ⟨26, 17, [.agg [.int .i64 0, .int .i64 0, .int .i64 0, .int .i64 0, .nils, .int .i64 0, .int .i64 0, .int .i64 0, .int .i64 0, .int .i64 0, .int .i64 0, .int .i64 0, .int .i64 0, .int .i64 0, .int .i64 0, .int .i64 0, .int .i64 0]]⟩)
    refine ⟨.tup [encE Ed.zero, vI 4], σ, hsf, Wk.tup ?_, by rw [hres], rfl⟩
    simp only [WkL]
    exact ⟨wk_edN hsf 0 0 0 0 Sty.zero, Wk.refl hsf _, trivial⟩
  | some out =>
    have hbc : backC l x = backR l x := by rw [backC, hd]; rfl
    rw [hbc] at hres
    obtain ⟨hb, hbo, hout, hk⟩ := doR_some hd
    (refine Runs.of_step Orc.nothing 300 ?_; simp -implicitDefEqProofs only [BB,seval,← decide_not,okind,vpre,vpure,intBin,intPre,strBin,strPre,popTo,argSlots,fldV,fldAV,subCells,idxVV,idxAAV,idxSV,sliceV,sliceSV,boundV,szIs,storeOp,storeS,setRowV,eff,extV,splice,eqSV,fitsL,eqCells,eqCell,minmaxV,capV,binBV,nilCheckV,bytesV,Orc.nothing,errV,optV,Option.isSome_some,Option.getD_some,a10,a2,encNs_cells,encNs_stays,V.cells_agg,V.cells_int,V.cells_nils,V.cells_own,V.cells_sl,V.cells_str,V.cells_bool,V.cells_fn,V.cells_ptr,V.cells_rp,V.stays_agg,V.stays_int,V.stays_nils,V.stays_own,V.stays_sl,V.stays_str,V.stays_bool,V.stays_fn,V.stays_ptr,V.stays_rp])
    refine And.intro (fun hk2 => ?_) (fun hk2 => ?_)
    · rw [outR, if_neg (by omega)] at hout
      obtain ⟨hbl, h1, h2, h3, h4⟩ := styleR_some hout
      obtain ⟨hp0, hp, _⟩ := blockR_lt hbl
      have hx := idxAV_encNsI (σ := σ2) hp0 hp
      have hst := stI_eq hp
      have hsb : ∀ (k p : Int) (s : Sty), buildV [.int .i64 0, .int .i64 0, .int .i64 0, .int .i64 0, .nils, .int .i64 0, .int .i64 0, .int .i64 0, .int .i64 0, .int .i64 0, .int .i64 0, .int .i64 0, .int .i64 0, .int .i64 0, .int .i64 0, .int .i64 0, .int .i64 0]
          [(0, 1, .int .i64 k), (2, 1, .int .i64 p), (5, 12, .agg [vI s.top, vI s.bottom, vI s.padTop, vI s.padBottom, vI s.inset, vI s.orphans, vI s.widows, vI s.head, vI s.before, vI s.after, vI s.inside, vI s.clear])] = some [.int .i64 k, .int .i64 0, .int .i64 p, .int .i64 0, .nils, .int .i64 s.top, .int .i64 s.bottom, .int .i64 s.padTop, .int .i64 s.padBottom, .int .i64 s.inset, .int .i64 s.orphans, .int .i64 s.widows, .int .i64 s.head, .int .i64 s.before, .int .i64 s.after, .int .i64 s.inside, .int .i64 s.clear] := fun _ _ _ => rfl
      rw [hk2]
      simp -implicitDefEqProofs only [BB,seval,← decide_not,okind,vpre,vpure,intBin,intPre,strBin,strPre,popTo,argSlots,fldV,fldAV,subCells,idxVV,idxAAV,idxSV,sliceV,sliceSV,boundV,szIs,storeOp,storeS,setRowV,eff,extV,splice,eqSV,fitsL,eqCells,eqCell,minmaxV,capV,binBV,nilCheckV,bytesV,hx,Nd.cells,hst,hsb,a10,a2,encNs_cells,encNs_stays,V.cells_agg,V.cells_int,V.cells_nils,V.cells_own,V.cells_sl,V.cells_str,V.cells_bool,V.cells_fn,V.cells_ptr,V.cells_rp,V.stays_agg,V.stays_int,V.stays_nils,V.stays_own,V.stays_sl,V.stays_str,V.stays_bool,V.stays_fn,V.stays_ptr,V.stays_rp,hk2]
      have hbk : backR l x = ⟨2, 0, x.pos, 0, [], stI l x.pos.toNat⟩ := by rw [backR, if_pos hk2]
      rw [hbk] at hres
      rw [hst] at hres
      refine ⟨_, σ, ?_, Wk.tup ?_, by rw [hres], rfl⟩
      · exact hs.updK g2
      · simp only [WkL]
        exact ⟨wk_edN (hs.updK g2) 2 0 x.pos 0 _, Wk.refl (hs.updK g2) _, trivial⟩
    · have hk1 : x.kind = 1 := by omega
      rw [outR, if_pos hk1] at hout
      obtain ⟨to, hg, hbs, hz, ho⟩ := swapR_some hout
      have hbk : backR l x = ⟨1, x.into, x.pos, (kidsR x.sub (-1)).length, cutL l x.pos to, Sty.zero⟩ := by rw [backR, if_neg (by omega), hg]
      rw [hbk] at hres
      have hgc := goes_c x l hl.sml.fine hb
      rw [hg] at hgc
      obtain ⟨_, e1, e2, e3, _⟩ := goneR_facts hb hg
      have hbu : buildV [.int .i64 0, .int .i64 0, .int .i64 0, .int .i64 0, .nils, .int .i64 0, .int .i64 0, .int .i64 0, .int .i64 0, .int .i64 0, .int .i64 0, .int .i64 0, .int .i64 0, .int .i64 0, .int .i64 0, .int .i64 0, .int .i64 0, .nils]
          [(0, 17, encE x), (17, 1, encNs l)] = some [.int .i64 x.kind, .int .i64 x.into, .int .i64 x.pos, .int .i64 x.many, encNs x.sub, .int .i64 x.st.top, .int .i64 x.st.bottom, .int .i64 x.st.padTop, .int .i64 x.st.padBottom, .int .i64 x.st.inset, .int .i64 x.st.orphans, .int .i64 x.st.widows, .int .i64 x.st.head, .int .i64 x.st.before, .int .i64 x.st.after, .int .i64 x.st.inside, .int .i64 x.st.clear, encNs l] := rfl
      simp only [encE,Ed.cells] at hbu
      simp -implicitDefEqProofs only [BB,seval,← decide_not,okind,vpre,vpure,intBin,intPre,strBin,strPre,popTo,argSlots,fldV,fldAV,subCells,idxVV,idxAAV,idxSV,sliceV,sliceSV,boundV,szIs,storeOp,storeS,setRowV,eff,extV,splice,eqSV,fitsL,eqCells,eqCell,minmaxV,capV,binBV,nilCheckV,bytesV,hbu,a10,a2,encNs_cells,encNs_stays,V.cells_agg,V.cells_int,V.cells_nils,V.cells_own,V.cells_sl,V.cells_str,V.cells_bool,V.cells_fn,V.cells_ptr,V.cells_rp,V.stays_agg,V.stays_int,V.stays_nils,V.stays_own,V.stays_sl,V.stays_str,V.stays_bool,V.stays_fn,V.stays_ptr,V.stays_rp]
      refine Runs.pcall rfl rfl rfl (hgc _) ?_
      (refine Runs.of_step Orc.nothing 300 ?_; simp -implicitDefEqProofs only [BB,seval,← decide_not,okind,vpre,vpure,intBin,intPre,strBin,strPre,popTo,argSlots,fldV,fldAV,subCells,idxVV,idxAAV,idxSV,sliceV,sliceSV,boundV,szIs,storeOp,storeS,setRowV,eff,extV,buildV,splice,eqSV,fitsL,eqCells,eqCell,minmaxV,capV,binBV,nilCheckV,bytesV,Orc.nothing,a10,a2,encNs_cells,encNs_stays,V.cells_agg,V.cells_int,V.cells_nils,V.cells_own,V.cells_sl,V.cells_str,V.cells_bool,V.cells_fn,V.cells_ptr,V.cells_rp,V.stays_agg,V.stays_int,V.stays_nils,V.stays_own,V.stays_sl,V.stays_str,V.stays_bool,V.stays_fn,V.stays_ptr,V.stays_rp])
      refine Go.pcall rfl (tops_c x.sub hx.sml.fine hbs) ?_
      have hsl := fun σ => sliceV_encNs (σ := σ) (l := l) (s := x.pos) (e := to) (by omega) e2 e3
      have hcut : (l.drop x.pos.toNat).take (to.toNat - x.pos.toNat) = cutL l x.pos to := rfl
      rw [hcut] at hsl
      have hlc : Sml (cutL l x.pos to) := ⟨by rw [cutL]; simp; omega, fun y hy => hl.2 y (List.mem_of_mem_drop (List.mem_of_mem_take hy))⟩
      (refine Go.of_step Orc.nothing 300 _ _ ?_; simp -implicitDefEqProofs only [BB,seval,← decide_not,okind,vpre,vpure,intBin,intPre,strBin,strPre,popTo,argSlots,fldV,fldAV,subCells,idxVV,idxAAV,idxSV,sliceSV,boundV,szIs,storeOp,storeS,setRowV,eff,extV,buildV,splice,eqSV,fitsL,eqCells,eqCell,minmaxV,capV,binBV,nilCheckV,bytesV,Orc.nothing,a10,a2,encNs_cells,encNs_stays,V.cells_agg,V.cells_int,V.cells_nils,V.cells_own,V.cells_sl,V.cells_str,V.cells_bool,V.cells_fn,V.cells_ptr,V.cells_rp,V.stays_agg,V.stays_int,V.stays_nils,V.stays_own,V.stays_sl,V.stays_str,V.stays_bool,V.stays_fn,V.stays_ptr,V.stays_rp,hsl])
      refine Go.pcall rfl (own9_c (cutL l x.pos to) hlc) ?_
      have hsb : ∀ (k i p m : Int) (s : List Nd), buildV [.int .i64 0, .int .i64 0, .int .i64 0, .int .i64 0, .nils, .int .i64 0, .int .i64 0, .int .i64 0, .int .i64 0, .int .i64 0, .int .i64 0, .int .i64 0, .int .i64 0, .int .i64 0, .int .i64 0, .int .i64 0, .int .i64 0]
          [(0, 1, .int .i64 k), (1, 1, .int .i64 i), (2, 1, .int .i64 p), (3, 1, .int .i64 m), (4, 1, encNs s)] = some [.int .i64 k, .int .i64 i, .int .i64 p, .int .i64 m, encNs s, .int .i64 0, .int .i64 0, .int .i64 0, .int .i64 0, .int .i64 0, .int .i64 0, .int .i64 0, .int .i64 0, .int .i64 0, .int .i64 0, .int .i64 0, .int .i64 0] := fun _ _ _ _ _ => rfl
      (refine Go.of_step Orc.nothing 300 _ _ ?_; simp -implicitDefEqProofs only [BB,seval,← decide_not,okind,vpre,vpure,intBin,intPre,strBin,strPre,popTo,argSlots,fldV,fldAV,subCells,idxVV,idxAAV,idxSV,sliceV,sliceSV,boundV,szIs,storeOp,storeS,setRowV,eff,extV,splice,eqSV,fitsL,eqCells,eqCell,minmaxV,capV,binBV,nilCheckV,bytesV,Orc.nothing,a10,a2,encNs_cells,encNs_stays,V.cells_agg,V.cells_int,V.cells_nils,V.cells_own,V.cells_sl,V.cells_str,V.cells_bool,V.cells_fn,V.cells_ptr,V.cells_rp,V.stays_agg,V.stays_int,V.stays_nils,V.stays_own,V.stays_sl,V.stays_str,V.stays_bool,V.stays_fn,V.stays_ptr,V.stays_rp,hsb,hk1])
      exact RetV.pure (hs.updK g2) (by rw [hres]; rfl)
end Go.Vc
namespace Go.Vc
open Go.Proofs
theorem holdsI_iff {l : List Nd} {a b : Int} : holdsI l a b = true ↔ 0 ≤ a ∧ b < l.length ∧ a ≤ b ∧ b < a + szI l a.toNat := by
  simp only [holdsI,Bool.and_eq_true,hasI_iff,decide_eq_true_eq]
  constructor
  · rintro ⟨h1, h2, h3, h4⟩; omega
  · rintro ⟨h1, h2, h3, h4⟩; omega
theorem parD_spec (l : List Nd) (b : Nat) : ∀ k, (parD l b k = -1 ∧ ∀ i : Nat, i < k → holdsI l i b = false) ∨ ∃ q : Nat, parD l b k = q ∧ q < k ∧ holdsI l q b = true ∧ ∀ i : Nat, q < i → i < k → holdsI l i b = false
  | 0 => .inl ⟨rfl, fun i h => by omega⟩
  | k + 1 => by
    rw [parD]
    cases hk : holdsI l k b
    · simp only [Bool.false_eq_true,↓reduceIte]
      rcases parD_spec l b k with ⟨h1, h2⟩ | ⟨q, h1, h2, h3, h4⟩
      · refine .inl ⟨h1, fun i hi => ?_⟩
        by_cases e : i = k
        · rw [e]; exact hk
        · exact h2 i (by omega)
      · refine .inr ⟨q, h1, by omega, h3, fun i hi hk' => ?_⟩
        by_cases e : i = k
        · rw [e]; exact hk
        · exact h4 i hi (by omega)
    · simp only [↓reduceIte]
      exact .inr ⟨k, rfl, by omega, hk, fun i hi hk' => by omega⟩
theorem nest {l : List Nd} (hb : isB l = true) {x q : Nat} (hx : x < l.length) (h1 : x ≤ q) (h2 : (q : Int) < x + szI l x) (hq : q < l.length) : (q : Int) + szI l q ≤ x + szI l x := by
  by_cases e : x = q
  · subst e; omega
  · have hrows : rowsB l 0 l.length = true := by simp only [isB,Bool.and_eq_true] at hb; exact hb.2
    obtain ⟨z1, z2⟩ := szI_bound hb hx
    obtain ⟨z3, _⟩ := rowsB_ends (Nat.le_refl _) hrows (Nat.zero_le x) hx
    have hin := rowsB_inner l (l.length + 1) 0 l.length (by omega) (Nat.le_refl _) hrows x (by omega) hx hx
    rw [← szI_eq hx] at hin
    have := (rowsB_ends (e := x + (szI l x).toNat) (by omega) hin (k := q) (by omega) (by omega)).1
    omega
theorem ups_le (l : List Nd) : ∀ (f : Nat) (p x : Int), x ∈ ups l f p → 0 ≤ x ∧ x ≤ p
  | 0, _, _, h => by simp [ups] at h
  | f + 1, p, x, h => by
    rw [ups] at h
    split at h
    · rcases List.mem_cons.1 h with rfl | h
      · omega
      · have := ups_le l f _ x h
        have := parR_range l p.toNat
        omega
    · simp at h
theorem ups_nodup (l : List Nd) : ∀ (f : Nat) (p : Int), (ups l f p).Nodup
  | 0, _ => by simp [ups]
  | f + 1, p => by
    rw [ups]
    split
    · refine List.nodup_cons.2 ⟨fun h => ?_, ups_nodup l f _⟩
      have := ups_le l f _ _ h
      have := parR_range l p.toNat
      omega
    · simp
theorem ups_mem {l : List Nd} (hb : isB l = true) : ∀ (f : Nat) (p : Int), p < l.length → p < f → ∀ x : Int, x ∈ ups l f p ↔ holdsI l x p = true
  | 0, p, hp, hf, x => by
    simp only [ups,List.not_mem_nil,false_iff]
    rw [holdsI_iff]; omega
  | f + 1, p, hp, hf, x => by
    rw [ups]
    split
    · rename_i h0
      obtain ⟨q, rfl⟩ : ∃ q : Nat, p = q := ⟨p.toNat, by omega⟩
      have hql : q < l.length := by omega
      have hpr := parR_range l q
      simp only [Int.toNat_natCast]
      rw [List.mem_cons, ups_mem hb f (parR l q) (by omega) (by omega) x]
      have hz := szI_bound hb hql
      constructor
      · rintro (rfl | h)
        · rw [holdsI_iff]; simp; omega
        · rw [holdsI_iff] at h
          obtain ⟨h1, h2, h3, h4⟩ := h
          obtain ⟨y, rfl⟩ : ∃ y : Nat, x = y := ⟨x.toNat, by omega⟩
          rcases parD_spec l q q with ⟨g1, _⟩ | ⟨r, g1, g2, g3, _⟩
          · rw [parR, g1] at h3; omega
          · rw [parR, g1] at h2 h3 h4
            simp only [Int.toNat_natCast] at h4
            rw [holdsI_iff] at g3 ⊢
            simp only [Int.toNat_natCast] at g3 ⊢
            have := nest hb (x := y) (q := r) (by omega) (by omega) h4 (by omega)
            omega
      · intro h
        rw [holdsI_iff] at h
        obtain ⟨h1, h2, h3, h4⟩ := h
        obtain ⟨y, rfl⟩ : ∃ y : Nat, x = y := ⟨x.toNat, by omega⟩
        simp only [Int.toNat_natCast] at h4
        by_cases e : y = q
        · left; rw [e]
        · right
          have hyq : holdsI l y q = true := by rw [holdsI_iff]; simp only [Int.toNat_natCast]; omega
          rcases parD_spec l q q with ⟨_, g2⟩ | ⟨r, g1, g2, g3, g4⟩
          · rw [g2 y (by omega)] at hyq; cases hyq
          · have hyr : y ≤ r := by
              by_cases hh : y ≤ r
              · exact hh
              · rw [g4 y (by omega) (by omega)] at hyq; cases hyq
            rw [parR, g1, holdsI_iff]
            simp only [Int.toNat_natCast]
            omega
    · rename_i h0
      simp only [List.not_mem_nil,false_iff]
      rw [holdsI_iff]; omega
theorem bump_get_at (m : Int) (p i : Nat) (out : List Nd) : (bump m p out)[i]? = if i = p then (out[i]?).map (fun x => { x with size := x.size + m }) else out[i]? := by
  by_cases e : i = p
  · subst e
    rw [if_pos rfl, bump]
    cases h : out[i]? with
    | none => simp [h]
    | some x =>
      have := (List.getElem?_eq_some_iff.1 h).1
      simp [this]
  · rw [if_neg e, bump_get e]
theorem bumps_get (m : Int) : ∀ (ps : List Int), (∀ p ∈ ps, 0 ≤ p) → ps.Nodup → ∀ (out : List Nd) (i : Nat),
    (bumps m ps out)[i]? = if (i : Int) ∈ ps then (out[i]?).map (fun x => { x with size := x.size + m }) else out[i]?
  | [], _, _, out, i => by simp [bumps]
  | p :: ps, h0, hn, out, i => by
    obtain ⟨hn1, hn2⟩ := List.nodup_cons.1 hn
    have hp := h0 p (by simp)
    rw [bumps, bumps_get m ps (fun q hq => h0 q (by simp [hq])) hn2, bump_get_at]
    by_cases e : (i : Int) = p
    · have e2 : i = p.toNat := by omega
      rw [if_neg (by rw [e]; exact hn1), if_pos e2, if_pos (by simp [e])]
    · have e2 : i ≠ p.toNat := by omega
      rw [if_neg e2]
      by_cases h2 : (i : Int) ∈ ps
      · rw [if_pos h2, if_pos (by simp [h2])]
      · rw [if_neg h2, if_neg (by simp [h2, e])]
def grewL (l : List Nd) (into more : Int) (n : Nat) : List Nd :=
  (l.take n).mapIdx fun i x => if (i : Int) = into ∨ holdsI l i into = true then { x with size := x.size + more } else x
theorem grewL_len {l : List Nd} {into more : Int} {n : Nat} : (grewL l into more n).length = (l.take n).length := by rw [grewL, List.length_mapIdx]
theorem app_right {α : Type} {A R : List α} {n i : Nat} (h : A.length = n) (hi : n ≤ i) : (A ++ R)[i]? = R[i - n]? := by
  rw [List.getElem?_append_right (by omega), h]
theorem swapL_eq {l : List Nd} (hb : isB l = true) {x : Ed} {to : Int} (h1 : x.into < x.pos) (h2 : -1 ≤ x.into) (h3 : x.pos ≤ l.length) :
    swapL l x to = grewL l x.into ((x.sub.length : Int) - (to - x.pos)) x.pos.toNat ++ x.sub ++ l.drop to.toNat := by
  refine List.ext_getElem? fun i => ?_
  rw [swapL, bumps_get _ _ (fun p hp => (ups_le l _ _ p hp).1) (ups_nodup l _ _)]
  have hm := ups_mem hb (l.length + 1) x.into (by omega) (by omega) i
  by_cases hi : i < x.pos.toNat
  · have hil : i < l.length := by omega
    rw [List.append_assoc, List.append_assoc, List.getElem?_append_left (by simp; omega), List.getElem?_append_left (by rw [grewL_len]; simp; omega), grewL, List.getElem?_mapIdx]
    have ht : (l.take x.pos.toNat)[i]? = some l[i] := by rw [List.getElem?_take, if_pos hi, List.getElem?_eq_getElem hil]
    rw [ht]
    simp only [Option.map_some]
    have hz := szI_bound hb hil
    have hiff : ((i : Int) = x.into ∨ holdsI l i x.into = true) ↔ holdsI l i x.into = true := by
      refine ⟨fun h => h.elim (fun e => ?_) id, .inr⟩
      rw [← e, holdsI_iff]; simp; omega
    by_cases hh : holdsI l i x.into = true
    · rw [if_pos (hm.2 hh), if_pos (.inr hh)]
    · rw [if_neg (fun h => hh (hm.1 h)), if_neg (fun h => hh (hiff.1 h))]
  · rw [if_neg (fun h => by have := ups_le l _ _ _ h; omega)]
    have e1 : (l.take x.pos.toNat).length = x.pos.toNat := by simp; omega
    have e2 : (grewL l x.into ((x.sub.length : Int) - (to - x.pos)) x.pos.toNat).length = x.pos.toNat := by rw [grewL_len, e1]
    rw [List.append_assoc, List.append_assoc, app_right e1 (by omega), app_right e2 (by omega)]
end Go.Vc
namespace Go.Vc
open Go.Proofs
def Len (N : Nat) (l : List Nd) : Prop := l.length ≤ N ∧ ∀ x ∈ l, x.words.length ≤ 1000000000
theorem Len.hlf {N : Nat} {l : List Nd} (h : Len N l) (hN : N ≤ 5000) : Hlf l := ⟨by have := h.1; omega, h.2⟩
end Go.Vc
namespace Go.Vc
open Go.Proofs
def outF (l : List Nd) (x : Ed) : Option (List Nd) :=
  if x.kind = 1 then (if (goesR l x.into x.pos x.many).2.2 = false ∨ isBF x.sub = false ∨ x.st ≠ Sty.zero then none else some (swapL l x (goesR l x.into x.pos x.many).2.1)) else styleR l x
def doF (l : List Nd) (x : Ed) : Option (List Nd) :=
  if isBF l = false ∨ x.kind < 1 ∨ 2 < x.kind then none else
  match outF l x with
  | none => none
  | some out => if isBF out = true then some out else none
theorem doR_F (l : List Nd) (x : Ed) : doR l x = doF l x := by
  have h : outR l x = outF l x := by simp only [outR,outF,swapR,isB_F]
  rw [doR, doF, h]
  all_goals simp only [isB_F]
  all_goals (split <;> first | rfl | (cases outF l x <;> rfl))
end Go.Vc
namespace Go.Vc
open Go.Proofs
def skI (l : List Nd) (i : Nat) : Option (Int × Int) := (l[i]?).map fun x => (x.size, x.kind)
theorem kidsW_shift {l l' : List Nd} : ∀ (m a b n : Nat), n < m → (∀ j, j < n → skI l (a + j) = skI l' (b + j)) → kidsW l' b (b + n) = (kidsW l a (a + n)).map fun x : Int => x - (a : Int) + (b : Int)
  | 0, _, _, _, h, _ => by omega
  | m + 1, a, b, n, h, hj => by
    by_cases h0 : n = 0
    · subst h0; rw [kidsW_nil (l := l') (a := b) (e := b + 0) (by omega), kidsW_nil (l := l) (a := a) (e := a + 0) (by omega)]; rfl
    · have e := hj 0 (by omega)
      simp only [Nat.add_zero] at e
      rw [kidsW, kidsW, dif_pos (show b < b + n by omega), dif_pos (show a < a + n by omega)]
      simp only [skI] at e
      cases h1 : l[a]? with
      | none =>
        rw [h1] at e
        cases h2 : l'[b]? with
        | none => rfl
        | some y => rw [h2] at e; simp at e
      | some x =>
        rw [h1] at e
        cases h2 : l'[b]? with
        | none => rw [h2] at e; simp at e
        | some y =>
          rw [h2] at e
          simp only [Option.map_some,Option.some.injEq,Prod.mk.injEq] at e
          simp only [← e.1]
          by_cases hs : 1 ≤ x.size
          · rw [dif_pos hs, dif_pos hs]
            simp only [List.map_cons]
            congr 1
            · omega
            · by_cases hle : x.size.toNat ≤ n
              · have ih := kidsW_shift m (a + x.size.toNat) (b + x.size.toNat) (n - x.size.toNat) (by omega) (fun j hjj => by
                  have := hj (x.size.toNat + j) (by omega)
                  rwa [← Nat.add_assoc, ← Nat.add_assoc] at this)
                rw [show b + x.size.toNat + (n - x.size.toNat) = b + n by omega, show a + x.size.toNat + (n - x.size.toNat) = a + n by omega] at ih
                rw [ih]
                apply List.map_congr_left
                intro z _
                omega
              · rw [kidsW_nil (l := l') (a := b + x.size.toNat) (e := b + n) (by omega), kidsW_nil (l := l) (a := a + x.size.toNat) (e := a + n) (by omega)]; rfl
          · rw [dif_neg hs, dif_neg hs]; rfl
theorem rowsB_shift {l l' : List Nd} : ∀ (m a b n : Nat), n < m → (∀ j, j < n → skI l (a + j) = skI l' (b + j)) → rowsB l' b (b + n) = rowsB l a (a + n)
  | 0, _, _, _, h, _ => by omega
  | m + 1, a, b, n, h, hj => by
    by_cases h0 : n = 0
    · subst h0
      rw [rowsB, rowsB, dif_neg (by omega), dif_neg (by omega)]
    · have e := hj 0 (by omega)
      simp only [Nat.add_zero] at e
      rw [rowsB, rowsB, dif_pos (by omega), dif_pos (by omega)]
      simp only [skI] at e
      cases h1 : l[a]? with
      | none =>
        rw [h1] at e
        cases h2 : l'[b]? with
        | none => rfl
        | some y => rw [h2] at e; simp at e
      | some x =>
        rw [h1] at e
        cases h2 : l'[b]? with
        | none => rw [h2] at e; simp at e
        | some y =>
          rw [h2] at e
          simp only [Option.map_some,Option.some.injEq,Prod.mk.injEq] at e
          simp only [← e.1,← e.2]
          by_cases hs : 1 ≤ x.size ∧ x.size ≤ n
          · rw [dif_pos (by omega), dif_pos (by omega)]
            have ih1 := rowsB_shift m (a + x.size.toNat) (b + x.size.toNat) (n - x.size.toNat) (by omega) (fun j hjj => by
              have := hj (x.size.toNat + j) (by omega)
              rwa [← Nat.add_assoc, ← Nat.add_assoc] at this)
            have ih2 := rowsB_shift m (a + 1) (b + 1) (x.size.toNat - 1) (by omega) (fun j hjj => by
              have := hj (1 + j) (by omega)
              rwa [← Nat.add_assoc, ← Nat.add_assoc] at this)
            rw [show b + x.size.toNat + (n - x.size.toNat) = b + n by omega, show a + x.size.toNat + (n - x.size.toNat) = a + n by omega] at ih1
            rw [show b + 1 + (x.size.toNat - 1) = b + x.size.toNat by omega, show a + 1 + (x.size.toNat - 1) = a + x.size.toNat by omega] at ih2
            rw [ih1, ih2]
          · rw [dif_neg (by omega), dif_neg (by omega)]
theorem kidsW_go {l : List Nd} : ∀ (m a c e : Nat), c - a < m → a ≤ c → c ≤ e → c ≤ l.length → rowsB l a c = true → kidsW l a e = kidsW l a c ++ kidsW l c e
  | 0, _, _, _, h, _, _, _, _ => by omega
  | m + 1, a, c, e, h, hac, hce, hcl, hr => by
    by_cases h0 : a = c
    · subst h0; rw [kidsW_nil (e := a) (Nat.le_refl _)]; rfl
    · have hlt : a < c := by omega
      have hal : a < l.length := by omega
      obtain ⟨y1, y2⟩ := rowsB_ends hcl hr (Nat.le_refl a) hlt
      obtain ⟨hr2, _⟩ := rowsB_next hcl hr hlt
      have hse := szI_eq hal
      rw [kidsW_cons (by omega) hal (by omega), kidsW_cons hlt hal (by omega), ← hse, kidsW_go m (a + (szI l a).toNat) c e (by omega) (by omega) hce hcl hr2]
      rfl
theorem kidsW_head {l : List Nd} {a e : Nat} (hae : a ≤ e) (he : e ≤ l.length) (hr : rowsB l a e = true) : (kidsW l a e ++ [(e : Int)])[0]? = some (a : Int) := by
  by_cases h0 : a = e
  · subst h0; rw [kidsW_nil (Nat.le_refl _)]; rfl
  · have hlt : a < e := by omega
    have hal : a < l.length := by omega
    obtain ⟨y1, y2⟩ := rowsB_ends he hr (Nat.le_refl a) hlt
    rw [kidsW_cons hlt hal (by rw [← szI_eq hal]; exact y2)]
    rfl
theorem rowsB_cut {l : List Nd} {e : Nat} (he : e ≤ l.length) : ∀ (m a : Nat), e - a < m → a ≤ e → rowsB l a e = true → ∀ c : Nat, (c : Int) ∈ kidsW l a e ++ [(e : Int)] → a ≤ c ∧ c ≤ e ∧ rowsB l a c = true ∧ rowsB l c e = true
  | 0, _, h, _, _, _, _ => by omega
  | m + 1, a, h, hae, hr, c, hc => by
    by_cases h0 : a = c
    · subst h0
      exact ⟨Nat.le_refl _, hae, by rw [rowsB, dif_neg (by omega)], hr⟩
    · by_cases h1 : a = e
      · subst h1
        rw [kidsW_nil (Nat.le_refl _)] at hc
        simp at hc; omega
      · have hlt : a < e := by omega
        have hal : a < l.length := by omega
        obtain ⟨y1, y2⟩ := rowsB_ends he hr (Nat.le_refl a) hlt
        obtain ⟨hr2, hr3⟩ := rowsB_next he hr hlt
        have hse := szI_eq hal
        rw [kidsW_cons hlt hal (by omega), ← hse] at hc
        have hc' : (c : Int) ∈ kidsW l (a + (szI l a).toNat) e ++ [(e : Int)] := by
          simp only [List.cons_append,List.mem_cons] at hc
          rcases hc with hc | hc
          · omega
          · exact hc
        obtain ⟨g1, g2, g3, g4⟩ := rowsB_cut he m (a + (szI l a).toNat) (by omega) (by omega) hr2 c hc'
        refine ⟨by omega, g2, ?_, g4⟩
        rw [rowsB, dif_pos (by omega)] at hr ⊢
        simp only [List.getElem?_eq_getElem hal] at hr ⊢
        rw [dif_pos (by omega)] at hr ⊢
        simp only [Bool.and_eq_true] at hr ⊢
        rw [hse] at g3
        exact ⟨hr.1, g3⟩
theorem idxI_at {a : Int} : ∀ {A R : List Int} {i : Nat}, (∀ x ∈ A, x ≠ a) → R[0]? = some a → idxI a (A ++ R) i = ((i + A.length : Nat) : Int)
  | [], R, i, _, h => by
    cases R with
    | nil => simp at h
    | cons q r => simp at h; subst h; simp [idxI]
  | q :: A, R, i, h1, h2 => by
    rw [List.cons_append, idxI, if_neg (fun e => h1 q (by simp) e.symm), idxI_at (fun x hx => h1 x (by simp [hx])) h2]
    simp only [List.length_cons]
    congr 1
    omega
end Go.Vc
namespace Go.Vc
open Go.Proofs
def OutP (K σ : Store) (e sz : Nat) (v : V) (rows : List V) : Prop := (v = .nils ∧ rows = []) ∨ ∃ id all, v = .own id 0 rows.length ∧ σ id = some ⟨e, sz, all⟩ ∧ all.take rows.length = rows ∧ K id = none
theorem OutV.outP {K σ : Store} {e sz : Nat} {v : V} {rows : List V} (h : OutV K σ e sz v rows) : OutP K σ e sz v rows := by
  rcases h with h | ⟨id, h1, h2, h3⟩
  · exact .inl h
  · exact .inr ⟨id, rows, h1, h2, List.take_length, h3⟩
theorem OutP.dst {K σ : Store} {e sz : Nat} {v : V} {rows : List V} (h : OutP K σ e sz v rows) {σ1 : Store} (hs : SubStore σ σ1) :
    ∃ idA, dstRows σ1 e sz v = some (rows, idA) ∧ ∀ K' : Store, SubStore K' K → ∀ σ2, SubStore K' σ2 → SubStore K' (delO σ2 idA) := by
  rcases h with ⟨rfl, rfl⟩ | ⟨id, all, rfl, ho, ht, hk⟩
  · exact ⟨none, rfl, fun _ _ _ h => h⟩
  · refine ⟨some id, ?_, fun K' hK σ2 h => h.delK (hK.none hk)⟩
    have hl : rows.length ≤ all.length := by
      have := congrArg List.length ht
      simp at this; omega
    simp only [dstRows,hs _ _ ho]
    rw [if_pos ⟨trivial, trivial, trivial, hl⟩, ht]
theorem OutP.wk {K σ : Store} {e sz : Nat} {v : V} {rows : List V} (h : OutP K σ e sz v rows) {K' : Store} (hK : SubStore K' K) (hs : SubStore K' σ) : Wk σ K' v (.sl sz rows) := by
  rcases h with ⟨rfl, rfl⟩ | ⟨id, all, rfl, ho, ht, hk⟩
  · exact Wk.nils sz
  · have hl : rows.length ≤ all.length := by
      have := congrArg List.length ht
      simp at this; omega
    have := Wk.own hs ho (hK.none hk) (off := 0) (len := rows.length) (by simpa using hl)
    rw [List.drop_zero, ht] at this
    exact this
theorem OutP.retv {K σ : Store} {e sz : Nat} {v : V} {rows : List V} (h : OutP K σ e sz v rows) (hs : SubStore K σ) {v0 : V} (hv : V.sl sz rows = v0) :
    RetV v σ fun r σ' => r = v0 ∧ σ' = K := ⟨_, K, hs, h.wk (SubStore.refl K) hs, hv, rfl⟩
theorem OutP.mono {K σ σ' : Store} {e sz : Nat} {v : V} {rows : List V} (h : OutP K σ e sz v rows) (hs : SubStore σ σ') : OutP K σ' e sz v rows := by
  rcases h with h | ⟨id, all, h1, h2, h3⟩
  · exact .inl h
  · exact .inr ⟨id, all, h1, hs _ _ h2, h3⟩
set_option maxRecDepth 100000 in
theorem grow_c (n : Nat) (hn : n ≤ 100000000) (σ : Store) : Contract Tryd.prog 40 [.nils, vI n] σ fun r σ' => SubStore σ σ' ∧ OutP σ σ' 42 20 r [] := by
  refine Contract.of_runs Tryd.func40 e40 k40 (by simp [c40]) ?_
  refine Runs.mix 5 ?_
  (refine Runs.of_step Orc.nothing 300 ?_; simp -implicitDefEqProofs only [BB,seval,← decide_not,okind,vpre,vpure,intBin,intPre,strBin,strPre,popTo,argSlots,fldV,fldAV,subCells,idxVV,idxAAV,idxSV,sliceV,sliceSV,boundV,szIs,storeOp,storeS,setRowV,eff,extV,buildV,splice,eqSV,fitsL,eqCells,eqCell,minmaxV,capV,binBV,nilCheckV,bytesV,V.cells,V.stays,Orc.nothing,c40])
  refine And.intro (fun h => by omega) (fun h => ?_)
  refine ⟨inR_i64 (by omega) (by omega), inR_i64 (by omega) (by omega), ?_⟩
  have e1 : (n : Int) - 0 = n := by omega
  rw [e1]
  refine And.intro (fun h1 => ?_) (fun h1 => ?_)
  · have hb : (0 : Int) < n ∧ (n : Int).toNat * 177 ≤ 140737488355328 := by omega
    simp -implicitDefEqProofs only [BB,seval,← decide_not,okind,vpre,vpure,intBin,intPre,strBin,strPre,popTo,argSlots,fldV,fldAV,subCells,idxVV,idxAAV,idxSV,sliceV,sliceSV,boundV,szIs,storeOp,storeS,setRowV,eff,extV,buildV,splice,eqSV,fitsL,eqCells,eqCell,minmaxV,capV,binBV,nilCheckV,bytesV,V.cells,V.stays,hb]
    refine effR_new fun id1 σ1 s1 a1 f1 => ?_
    have hsl : sliceV σ1 20 (.own id1 0 n) none (some (.int .i64 0)) none = some (.own id1 0 0) := by
      simp only [sliceV,boundV,szIs,a1]
      rw [if_pos ⟨by omega, by omega, by omega, by omega, by simp⟩]
      simp
    simp -implicitDefEqProofs only [BB,seval,← decide_not,okind,vpre,vpure,intBin,intPre,strBin,strPre,popTo,argSlots,fldV,fldAV,subCells,idxVV,idxAAV,idxSV,sliceSV,boundV,szIs,storeOp,storeS,setRowV,eff,extV,buildV,splice,eqSV,fitsL,eqCells,eqCell,minmaxV,capV,binBV,nilCheckV,bytesV,V.cells,V.stays,a1,Int.toNat_natCast,hsl]
    refine ⟨_, _, SubStore.refl _, Wk.refl (SubStore.refl _) _, s1, .inr ⟨id1, _, rfl, a1, rfl, f1⟩⟩
  · exact ⟨_, _, SubStore.refl _, Wk.refl (SubStore.refl _) _, SubStore.refl _, .inl ⟨rfl, rfl⟩⟩
def encTr (L : List (List Nd)) : V := .sl 1 (L.map encNs)
theorem lenV_encT (L : List (List Nd)) : lenV false (encTr L) = some (.int .i64 L.length) := by simp [encTr, lenV]
theorem idxAV_encT {σ : Store} {L : List (List Nd)} {i : Nat} (h : i < L.length) : idxAV σ 1 (encTr L) (.int .i64 i) = some (.rp (encNs L[i])) := by
  simp [encTr, idxAV, h]
theorem loadV_rp_encNs (σ : Store) (l : List Nd) : loadV σ false 1 (.rp (encNs l)) = some (encNs l) := by simp [loadV, encNs, V.cells]
theorem sliceT_pre {σ : Store} {L : List (List Nd)} {s : Int} (h1 : 0 ≤ s) (h2 : s ≤ L.length) :
    sliceV σ 1 (encTr L) none (some (.int .i64 s)) none = some (encTr (L.take s.toNat)) := by
  simp only [encTr,sliceV,boundV,List.length_map]
  rw [if_pos ⟨Int.le_refl _, h1, h2, Int.le_refl _, trivial⟩]
  simp [List.map_take]
theorem sliceT_from {σ : Store} {L : List (List Nd)} {s : Int} (h1 : 0 ≤ s) (h2 : s ≤ L.length) :
    sliceV σ 1 (encTr L) (some (.int .i64 s)) none none = some (encTr (L.drop s.toNat)) := by
  simp only [encTr,sliceV,boundV,List.length_map]
  rw [if_pos ⟨h1, h2, Int.le_refl _, Int.le_refl _, trivial⟩]
  simp only [V.sl.injEq,Option.some.injEq,true_and]
  rw [List.map_drop, List.take_of_length_le]
  simp
set_option maxRecDepth 100000 in
theorem concat_c (L : List (List Nd)) (hL : L.length ≤ 10000) (hl : ∀ l ∈ L, l.length ≤ 10000) : PFun Tryd.prog 22 [encTr L] (encNs L.flatten) := fun σ => by
  have hsum : ∀ i, i ≤ L.length → (L.take i).flatten.length ≤ i * 10000 := fun i hi => by
    induction i with
    | zero => simp
    | succ i ih =>
      rw [List.take_succ_eq_append_getElem (by omega), List.flatten_append, List.length_append]
      have := hl _ (List.getElem_mem (show i < L.length by omega))
      have := ih (by omega)
      simp only [List.flatten_cons,List.flatten_nil,List.append_nil]
      omega
  have hstep : ∀ i (h : i < L.length), (L.take (i + 1)).flatten = (L.take i).flatten ++ L[i] := fun i h => by
    rw [List.take_succ_eq_append_getElem h, List.flatten_append]; simp
  refine Contract.of_runs Tryd.func22 e22 k22 (by simp [c22]) ?_
  refine Runs.mix 9 ?_
  (refine Runs.of_step Orc.nothing 300 ?_; simp -implicitDefEqProofs only [BB,seval,← decide_not,okind,vpre,vpure,intBin,intPre,strBin,strPre,popTo,argSlots,fldV,fldAV,subCells,idxVV,idxAAV,idxSV,sliceV,sliceSV,boundV,szIs,storeOp,storeS,setRowV,eff,extV,buildV,splice,eqSV,fitsL,eqCells,eqCell,minmaxV,capV,binBV,nilCheckV,bytesV,V.cells,V.stays,Orc.nothing,c22,lenV_encT])
  refine Runs.loop (fun m st => ∃ i : Nat, i ≤ L.length ∧ m = L.length - i ∧ st.σ = σ ∧ st.s 0 = encTr L ∧ st.s 2 = .nils ∧ st.s 3 = vI (L.take i).flatten.length ∧ st.s 9 = encTr L ∧ st.s 10 = vI L.length ∧ st.s 11 = vI i) L.length ?_ ?_
  · exact ⟨0, by omega, by omega, rfl, rfl, rfl, rfl, rfl, rfl, rfl⟩
  · rintro m ⟨s, σ'⟩ ⟨i, hi, rfl, hσ, h0, h2, h3, h9, h10, h11⟩
    simp only at hσ h0 h2 h3 h9 h10 h11
    subst hσ
    refine Runs.mix 12 ?_
    (refine Runs.of_step Orc.nothing 300 ?_; simp -implicitDefEqProofs only [BB,seval,← decide_not,okind,vpre,vpure,intBin,intPre,strBin,strPre,popTo,argSlots,fldV,fldAV,subCells,idxVV,idxAAV,idxSV,sliceV,sliceSV,boundV,szIs,storeOp,storeS,setRowV,eff,extV,buildV,splice,eqSV,fitsL,eqCells,eqCell,minmaxV,capV,binBV,nilCheckV,bytesV,V.cells,V.stays,Orc.nothing,h0,h2,h3,h9,h10,h11])
    refine And.intro (fun hlt => ?_) (fun hge => ?_)
    · have hlt' : i < L.length := by omega
      have hs1 := hsum i hi
      have hs2 := hsum (i + 1) hlt'
      have hst := hstep i hlt'
      have hll := hl _ (List.getElem_mem hlt')
      have hlen : (L.take (i + 1)).flatten.length = (L.take i).flatten.length + L[i].length := by rw [hst, List.length_append]
      simp -implicitDefEqProofs only [BB,seval,← decide_not,okind,vpre,vpure,intBin,intPre,strBin,strPre,popTo,argSlots,fldV,fldAV,subCells,idxVV,idxAAV,idxSV,sliceV,sliceSV,boundV,szIs,storeOp,storeS,setRowV,eff,extV,buildV,splice,eqSV,fitsL,eqCells,eqCell,minmaxV,capV,binBV,nilCheckV,bytesV,V.cells,V.stays,idxAV_encT hlt',loadV_rp_encNs,lenV_encNs,h0,h2,h3,h9,h10,h11]
      refine ⟨inR_i64 (by omega) (by omega), And.intro (fun h => by omega) (fun h => ⟨inR_i64 (by omega) (by omega), _, ?_, i + 1, by omega, rfl, ?_⟩)⟩
      · omega
      · rw [hlen]
        simp
    · have hie : i = L.length := by omega
      subst hie
      rw [List.take_length]
      have hs0 := hsum L.length (Nat.le_refl _)
      rw [List.take_length] at hs0
      refine Runs.call rfl rfl rfl (grow_c L.flatten.length (by omega) _) ?_
      rintro r σ1 ⟨hsub1, hout1⟩
      simp only at hsub1 hout1
      (refine Runs.of_step Orc.nothing 300 ?_; simp -implicitDefEqProofs only [BB,seval,← decide_not,okind,vpre,vpure,intBin,intPre,strBin,strPre,popTo,argSlots,fldV,fldAV,subCells,idxVV,idxAAV,idxSV,sliceV,sliceSV,boundV,szIs,storeOp,storeS,setRowV,eff,extV,buildV,splice,eqSV,fitsL,eqCells,eqCell,minmaxV,capV,binBV,nilCheckV,bytesV,V.cells,V.stays,Orc.nothing,h0,h2,h3,h9,h10,h11,lenV_encT])
      refine Runs.loop (fun m st => ∃ i : Nat, i ≤ L.length ∧ m = L.length - i ∧ SubStore σ' st.σ ∧ OutP σ' st.σ 42 20 (st.s 6) ((L.take i).flatten.map encN) ∧ st.s 25 = encTr L ∧ st.s 26 = vI L.length ∧ st.s 27 = vI i) L.length ?_ ?_
      · exact ⟨0, by omega, by omega, hsub1, hout1, rfl, rfl, rfl⟩
      · rintro m ⟨s, σ2⟩ ⟨i, hi, rfl, hsub, hout, h25, h26, h27⟩
        simp only at hsub hout h25 h26 h27
        refine Runs.mix 12 ?_
        (refine Runs.of_step Orc.nothing 300 ?_; simp -implicitDefEqProofs only [BB,seval,← decide_not,okind,vpre,vpure,intBin,intPre,strBin,strPre,popTo,argSlots,fldV,fldAV,subCells,idxVV,idxAAV,idxSV,sliceV,sliceSV,boundV,szIs,storeOp,storeS,setRowV,eff,extV,buildV,splice,eqSV,fitsL,eqCells,eqCell,minmaxV,capV,binBV,nilCheckV,bytesV,V.cells,V.stays,Orc.nothing,h25,h26,h27])
        refine And.intro (fun hlt => ?_) (fun hge => ?_)
        · have hlt' : i < L.length := by omega
          have hs1 := hsum i hi
          have hst := hstep i hlt'
          have hll := hl _ (List.getElem_mem hlt')
          have hsrc : ∀ (σ : Store) (l : List Nd), srcRows σ 20 (encNs l) = some (l.map encN) := fun σ l => by simp [encNs, srcRows]
          obtain ⟨idA, hd, hdel⟩ := hout.dst (SubStore.refl _)
          have hb : ((L.take i).flatten.length + L[i].length) * 177 ≤ 140737488355328 := by omega
          simp -implicitDefEqProofs only [BB,seval,← decide_not,okind,vpre,vpure,intBin,intPre,strBin,strPre,popTo,argSlots,fldV,fldAV,subCells,idxVV,idxAAV,idxSV,sliceV,sliceSV,boundV,szIs,storeOp,storeS,setRowV,eff,extV,buildV,splice,eqSV,fitsL,eqCells,eqCell,minmaxV,capV,binBV,nilCheckV,bytesV,V.cells,V.stays,idxAV_encT hlt',loadV_rp_encNs,h25,h26,h27,hd,hsrc,List.length_map,hb]
          refine effR_put fun id4 σ4 s4 a4 f4 => ?_
          have hs4 := (hdel σ' (SubStore.refl _) σ2 hsub).trans s4
          simp -implicitDefEqProofs only [BB,seval,← decide_not,okind,vpre,vpure,intBin,intPre,strBin,strPre,popTo,argSlots,fldV,fldAV,subCells,idxVV,idxAAV,idxSV,sliceV,sliceSV,boundV,szIs,storeOp,storeS,setRowV,eff,extV,buildV,splice,eqSV,fitsL,eqCells,eqCell,minmaxV,capV,binBV,nilCheckV,bytesV,V.cells,V.stays,h25,h26,h27]
          refine ⟨inR_i64 (by omega) (by omega), _, ?_, i + 1, by omega, rfl, hs4, ?_, ?_⟩
          · omega
          · rw [hst, List.map_append]
            exact (OutV.new (by simp only [List.length_append,List.length_map]) a4 (hsub.none f4)).outP
          · simp
        · have hie : i = L.length := by omega
          subst hie
          rw [List.take_length] at hout
          exact hout.retv hsub rfl
end Go.Vc
namespace Go.Vc
open Go.Proofs
def treesR (l : List Nd) : List (List Nd) := (kidsR l (-1)).map fun k => cutL l k (k + szI l k.toNat)
theorem kids_end {l : List Nd} (hb : isB l = true) {k : Int} (h : k ∈ kidsR l (-1)) : 0 ≤ k ∧ k.toNat < l.length ∧ k + szI l k.toNat ≤ l.length ∧ 1 ≤ szI l k.toNat := by
  obtain ⟨h1, h2⟩ := kidsR_mem h
  have hrows : rowsB l 0 l.length = true := by simp only [isB,Bool.and_eq_true] at hb; exact hb.2
  have := rowsB_ends (Nat.le_refl _) hrows (Nat.zero_le k.toNat) h2
  omega
theorem cutL_len {l : List Nd} {a e : Int} : (cutL l a e).length ≤ l.length := by rw [cutL]; simp; omega
theorem treesR_mem {l t : List Nd} (h : t ∈ treesR l) : t.length ≤ l.length ∧ ∀ x ∈ t, x ∈ l := by
  simp only [treesR,List.mem_map] at h
  obtain ⟨k, _, rfl⟩ := h
  exact ⟨cutL_len, fun x hx => List.mem_of_mem_drop (List.mem_of_mem_take hx)⟩
theorem treesR_len (l : List Nd) : (treesR l).length ≤ l.length := by rw [treesR, List.length_map]; exact kidsR_len l (-1)
set_option maxRecDepth 100000 in
theorem trees_c (l : List Nd) (hl : Fine l) (hb : isB l = true) : PFun Tryd.prog 19 [encNs l] (encTr (treesR l)) := fun σ => by
  have hl1 := hl.1
  have hkl := kidsR_len l (-1)
  have hke := fun k (h : k ∈ kidsR l (-1)) => kids_end hb h
  refine Contract.of_runs Tryd.func19 e19 k19 (by simp [c19]) ?_
  refine Runs.mix 6 ?_
  (refine Runs.of_step Orc.nothing 300 ?_; simp -implicitDefEqProofs only [BB,seval,← decide_not,okind,vpre,vpure,intBin,intPre,strBin,strPre,popTo,argSlots,fldV,fldAV,subCells,idxVV,idxAAV,idxSV,sliceV,sliceSV,boundV,szIs,storeOp,storeS,setRowV,eff,extV,buildV,splice,eqSV,fitsL,eqCells,eqCell,minmaxV,capV,binBV,nilCheckV,bytesV,V.cells,V.stays,Orc.nothing,c19])
  refine Runs.pcall rfl rfl rfl (kids9_p l hl hb (-1) (.inl rfl) _) ?_
  have hT : encTr (treesR l) = .sl 1 ((kidsR l (-1)).map fun k => encNs (cutL l k (k + szI l k.toNat))) := by
    rw [encTr, treesR, List.map_map]; rfl
  rw [hT]
  generalize kidsR l (-1) = ks at *
  (refine Runs.of_step Orc.nothing 300 ?_; simp -implicitDefEqProofs only [BB,seval,← decide_not,okind,vpre,vpure,intBin,intPre,strBin,strPre,popTo,argSlots,fldV,fldAV,subCells,idxVV,idxAAV,idxSV,sliceV,sliceSV,boundV,szIs,storeOp,storeS,setRowV,eff,extV,buildV,splice,eqSV,fitsL,eqCells,eqCell,minmaxV,capV,binBV,nilCheckV,bytesV,V.cells,V.stays,Orc.nothing,lenV_encI])
  refine Runs.loop (fun m st => ∃ i : Nat, i ≤ ks.length ∧ m = ks.length - i ∧ SubStore σ st.σ ∧ OutV σ st.σ 22 1 (st.s 3) ((ks.take i).map fun k => encNs (cutL l k (k + szI l k.toNat))) ∧ st.s 0 = encNs l ∧ st.s 7 = encI ks ∧ st.s 8 = vI ks.length ∧ st.s 9 = vI i) ks.length ?_ ?_
  · exact ⟨0, by omega, by omega, SubStore.refl _, .inl ⟨rfl, rfl⟩, rfl, rfl, rfl, rfl⟩
  · rintro m ⟨s, σ'⟩ ⟨i, hi, rfl, hsub, hout, h0, h7, h8, h9⟩
    simp only at hsub hout h0 h7 h8 h9
    refine Runs.mix 10 ?_
    (refine Runs.of_step Orc.nothing 300 ?_; simp -implicitDefEqProofs only [BB,seval,← decide_not,okind,vpre,vpure,intBin,intPre,strBin,strPre,popTo,argSlots,fldV,fldAV,subCells,idxVV,idxAAV,idxSV,sliceV,sliceSV,boundV,szIs,storeOp,storeS,setRowV,eff,extV,buildV,splice,eqSV,fitsL,eqCells,eqCell,minmaxV,capV,binBV,nilCheckV,bytesV,V.cells,V.stays,Orc.nothing,h0,h7,h8,h9])
    refine And.intro (fun hlt => ?_) (fun hge => ?_)
    · have hlt' : i < ks.length := by omega
      obtain ⟨g1, g2, g3, g4⟩ := hke _ (List.getElem_mem hlt')
      have hst : (ks.take (i + 1)).map (fun k => encNs (cutL l k (k + szI l k.toNat))) = (ks.take i).map (fun k => encNs (cutL l k (k + szI l k.toNat))) ++ [encNs (cutL l ks[i] (ks[i] + szI l ks[i].toNat))] := by
        rw [List.take_succ_eq_append_getElem hlt', List.map_append]; rfl
      have hx := fun σ => idxAV_encNsI (σ := σ) g1 g2
      have hse := szI_eq g2
      have hsl := fun σ => sliceV_encNs (σ := σ) (l := l) (s := ks[i]) (e := ks[i] + szI l ks[i].toNat) g1 (by omega) g3
      have hcut : (l.drop ks[i].toNat).take ((ks[i] + szI l ks[i].toNat).toNat - ks[i].toNat) = cutL l ks[i] (ks[i] + szI l ks[i].toNat) := rfl
      rw [hcut] at hsl
      simp -implicitDefEqProofs only [BB,seval,← decide_not,okind,vpre,vpure,intBin,intPre,strBin,strPre,popTo,argSlots,fldV,fldAV,subCells,idxVV,idxAAV,idxSV,sliceSV,boundV,szIs,storeOp,storeS,setRowV,eff,extV,buildV,splice,eqSV,fitsL,eqCells,eqCell,minmaxV,capV,binBV,nilCheckV,bytesV,V.cells,V.stays,idxAV_encI hlt',hx,Nd.cells,h0,h7,h8,h9]
      rw [← hse]
      simp -implicitDefEqProofs only [BB,seval,← decide_not,okind,vpre,vpure,intBin,intPre,strBin,strPre,popTo,argSlots,fldV,fldAV,subCells,idxVV,idxAAV,idxSV,sliceSV,boundV,szIs,storeOp,storeS,setRowV,eff,extV,buildV,splice,eqSV,fitsL,eqCells,eqCell,minmaxV,capV,binBV,nilCheckV,bytesV,hsl,h0,h7,h8,h9,encNs_cells,encNs_stays,V.cells_agg,V.cells_int,V.cells_nils,V.cells_own,V.cells_sl,V.cells_str,V.cells_bool,V.cells_fn,V.cells_ptr,V.cells_rp,V.stays_agg,V.stays_int,V.stays_nils,V.stays_own,V.stays_sl,V.stays_str,V.stays_bool,V.stays_fn,V.stays_ptr,V.stays_rp]
      refine ⟨inR_i64 (by omega) (by omega), ?_⟩
      refine effR_new fun id1 σ2 s2 a1 f1 => ?_
      obtain ⟨idA, hd, hdel⟩ := hout.dst s2
      have hb2 : (i + 1) * 25 ≤ 140737488355328 := by omega
      have hlt2 : (ks.take i).length = i := by simp; omega
      simp -implicitDefEqProofs only [BB,seval,← decide_not,okind,vpre,vpure,intBin,intPre,strBin,strPre,popTo,argSlots,fldV,fldAV,subCells,idxVV,idxAAV,idxSV,sliceV,sliceSV,boundV,szIs,storeOp,storeS,setRowV,eff,extV,buildV,splice,eqSV,fitsL,eqCells,eqCell,minmaxV,capV,binBV,nilCheckV,bytesV,V.cells,V.stays,hd,srcOne a1,List.length_map,hlt2,hb2,h0,h7,h8,h9]
      refine effR_put fun id2 σ3 s3 a2 f2 => ?_
      have hs3 := (hdel σ (SubStore.refl σ) σ2 (hsub.trans s2)).trans s3
      simp -implicitDefEqProofs only [BB,seval,← decide_not,okind,vpre,vpure,intBin,intPre,strBin,strPre,popTo,argSlots,fldV,fldAV,subCells,idxVV,idxAAV,idxSV,sliceV,sliceSV,boundV,szIs,storeOp,storeS,setRowV,eff,extV,buildV,splice,eqSV,fitsL,eqCells,eqCell,minmaxV,capV,binBV,nilCheckV,bytesV,V.cells,V.stays,h0,h7,h8,h9]
      refine ⟨inR_i64 (by omega) (by omega), _, ?_, i + 1, by omega, rfl, hs3, ?_, ?_⟩
      · omega
      · rw [hst]
        exact OutV.new (by simp only [List.length_append,List.length_map,hlt2,List.length_cons,List.length_nil]) a2 ((hsub.trans s2).none f2)
      · simp
    · have hie : i = ks.length := by omega
      subst hie
      rw [List.take_length] at hout
      exact hout.retv hsub rfl
def alikeN (eq : Nat → Bool) : Nat → Nat → Nat
  | 0, n => n
  | f + 1, n => if eq n then alikeN eq f (n + 1) else n
def alikeR (tell : List (List Nd) → Nat → List Nd) (a b : List (List Nd)) : Nat := alikeN (fun n => decide (tell a n = tell b n)) (min a.length b.length) 0
theorem alikeN_le (eq : Nat → Bool) : ∀ f n, n ≤ alikeN eq f n ∧ alikeN eq f n ≤ n + f
  | 0, n => by simp [alikeN]
  | f + 1, n => by
    rw [alikeN]
    split
    · have := alikeN_le eq f (n + 1); omega
    · omega
theorem alikeR_le (tell : List (List Nd) → Nat → List Nd) (a b : List (List Nd)) : alikeR tell a b ≤ a.length ∧ alikeR tell a b ≤ b.length := by
  have := alikeN_le (fun n => decide (tell a n = tell b n)) (min a.length b.length) 0
  rw [alikeR]; omega
set_option maxRecDepth 100000 in
theorem alike_c (tell : List (List Nd) → Nat → List Nd) (g : FuncId) (a b : List (List Nd)) (ha : a.length ≤ 10000) (hb : b.length ≤ 10000)
    (hg : ∀ (L : List (List Nd)) (k : Nat), L.length ≤ 10000 → k < L.length → PFun Tryd.prog g [encTr L, vI k] (encNs (tell L k)))
    (hfa : ∀ k, k < a.length → Fine (tell a k)) (hfb : ∀ k, k < b.length → Fine (tell b k)) : PFun Tryd.prog 20 [encTr a, encTr b, .fn g []] (vI (alikeR tell a b)) := fun σ => by
  refine Contract.of_runs Tryd.func20 e20 k20 (by simp [c20]) ?_
  refine Runs.mix 8 ?_
  (refine Runs.of_step Orc.nothing 300 ?_; simp -implicitDefEqProofs only [BB,seval,← decide_not,okind,vpre,vpure,intBin,intPre,strBin,strPre,popTo,argSlots,fldV,fldAV,subCells,idxVV,idxAAV,idxSV,sliceV,sliceSV,boundV,szIs,storeOp,storeS,setRowV,eff,extV,buildV,splice,eqSV,fitsL,eqCells,eqCell,minmaxV,capV,binBV,nilCheckV,bytesV,V.cells,V.stays,Orc.nothing,c20])
  have hR : alikeR tell a b = alikeN (fun n => decide (tell a n = tell b n)) (min a.length b.length) 0 := rfl
  rw [hR]
  generalize hN : alikeN (fun n => decide (tell a n = tell b n)) (min a.length b.length) 0 = N at *
  refine Runs.loop (fun m st => ∃ n : Nat, n ≤ min a.length b.length ∧ m = min a.length b.length - n ∧ N = alikeN (fun n => decide (tell a n = tell b n)) m n ∧ st.σ = σ ∧ st.s 0 = encTr a ∧ st.s 1 = encTr b ∧ st.s 2 = .fn g [] ∧ st.s 7 = vI n) (min a.length b.length) ?_ ?_
  · exact ⟨0, by omega, by omega, hN.symm, rfl, rfl, rfl, rfl, rfl⟩
  · rintro m ⟨s, σ'⟩ ⟨n, hn, hm, heq, hσ, h0, h1, h2, h7⟩
    simp only at hσ h0 h1 h2 h7
    subst hσ
    refine Runs.mix 8 ?_
    (refine Runs.of_step Orc.nothing 300 ?_; simp -implicitDefEqProofs only [BB,seval,← decide_not,okind,vpre,vpure,intBin,intPre,strBin,strPre,popTo,argSlots,fldV,fldAV,subCells,idxVV,idxAAV,idxSV,sliceV,sliceSV,boundV,szIs,storeOp,storeS,setRowV,eff,extV,buildV,splice,eqSV,fitsL,eqCells,eqCell,minmaxV,capV,binBV,nilCheckV,bytesV,V.cells,V.stays,Orc.nothing,h0,h1,h2,h7,lenV_encT])
    have hmin : (if (b.length : Int) < a.length then (b.length : Int) else a.length) = ((min a.length b.length : Nat) : Int) := by
      split <;> omega
    rw [hmin]
    refine And.intro (fun hlt => ?_) (fun hge => ?_)
    · have hlt' : n < min a.length b.length := by omega
      obtain ⟨k, rfl⟩ : ∃ k, m = k + 1 := ⟨m - 1, by omega⟩
      refine Runs.pcall (f := g) (caps := []) rfl rfl rfl (hg a n ha (by omega) _) ?_
      (refine Runs.of_step Orc.nothing 300 ?_; simp -implicitDefEqProofs only [BB,seval,← decide_not,okind,vpre,vpure,intBin,intPre,strBin,strPre,popTo,argSlots,fldV,fldAV,subCells,idxVV,idxAAV,idxSV,sliceV,sliceSV,boundV,szIs,storeOp,storeS,setRowV,eff,extV,buildV,splice,eqSV,fitsL,eqCells,eqCell,minmaxV,capV,binBV,nilCheckV,bytesV,V.cells,V.stays,Orc.nothing,h0,h1,h2,h7])
      refine Runs.pcall (f := g) (caps := []) rfl rfl rfl (hg b n hb (by omega) _) ?_
      (refine Runs.of_step Orc.nothing 300 ?_; simp -implicitDefEqProofs only [BB,seval,← decide_not,okind,vpre,vpure,intBin,intPre,strBin,strPre,popTo,argSlots,fldV,fldAV,subCells,idxVV,idxAAV,idxSV,sliceV,sliceSV,boundV,szIs,storeOp,storeS,setRowV,eff,extV,buildV,splice,eqSV,fitsL,eqCells,eqCell,minmaxV,capV,binBV,nilCheckV,bytesV,V.cells,V.stays,Orc.nothing,h0,h1,h2,h7])
      refine Runs.pcall rfl rfl rfl (same9_c (tell a n) (tell b n) (hfa n (by omega)) (hfb n (by omega)) _) ?_
      rw [alikeN] at heq
      by_cases he : tell a n = tell b n
      · have hd : decide (tell a n = tell b n) = true := decide_eq_true he
        rw [hd] at heq ⊢
        simp only [if_true] at heq
        (refine Runs.of_step Orc.nothing 300 ?_; simp -implicitDefEqProofs only [BB,seval,← decide_not,okind,vpre,vpure,intBin,intPre,strBin,strPre,popTo,argSlots,fldV,fldAV,subCells,idxVV,idxAAV,idxSV,sliceV,sliceSV,boundV,szIs,storeOp,storeS,setRowV,eff,extV,buildV,splice,eqSV,fitsL,eqCells,eqCell,minmaxV,capV,binBV,nilCheckV,bytesV,V.cells,V.stays,Orc.nothing,h0,h1,h2,h7])
        exact ⟨inR_i64 (by omega) (by omega), k, by omega, n + 1, by omega, by omega, heq, by simp⟩
      · have hd : decide (tell a n = tell b n) = false := decide_eq_false he
        rw [hd] at heq ⊢
        simp only [Bool.false_eq_true,if_false] at heq
        (refine Runs.of_step Orc.nothing 300 ?_; simp -implicitDefEqProofs only [BB,seval,← decide_not,okind,vpre,vpure,intBin,intPre,strBin,strPre,popTo,argSlots,fldV,fldAV,subCells,idxVV,idxAAV,idxSV,sliceV,sliceSV,boundV,szIs,storeOp,storeS,setRowV,eff,extV,buildV,splice,eqSV,fitsL,eqCells,eqCell,minmaxV,capV,binBV,nilCheckV,bytesV,V.cells,V.stays,Orc.nothing,h0,h1,h2,h7])
        exact RetV.same (by rw [heq])
    · have hm0 : m = 0 := by omega
      subst hm0
      rw [alikeN] at heq
      exact RetV.same (by rw [heq])
def tellF (L : List (List Nd)) (k : Nat) : List Nd := (L[k]?).getD []
def tellL (L : List (List Nd)) (k : Nat) : List Nd := (L[L.length - 1 - k]?).getD []
set_option maxRecDepth 100000 in
theorem tellF_c (L : List (List Nd)) (k : Nat) (hL : L.length ≤ 10000) (hk : k < L.length) : PFun Tryd.prog 21 [encTr L, vI k] (encNs (tellF L k)) := fun σ => by
  refine Contract.of_runs Tryd.func21 e21 k21 (by simp [c21]) ?_
  refine Runs.mix 5 ?_
  (refine Runs.of_step Orc.nothing 300 ?_; simp -implicitDefEqProofs only [BB,seval,← decide_not,okind,vpre,vpure,intBin,intPre,strBin,strPre,popTo,argSlots,fldV,fldAV,subCells,idxVV,idxAAV,idxSV,sliceV,sliceSV,boundV,szIs,storeOp,storeS,setRowV,eff,extV,buildV,splice,eqSV,fitsL,eqCells,eqCell,minmaxV,capV,binBV,nilCheckV,bytesV,V.cells,V.stays,Orc.nothing,c21,idxAV_encT hk,loadV_rp_encNs])
  exact RetV.same (by simp [tellF, hk])
set_option maxRecDepth 100000 in
theorem tellL_c (L : List (List Nd)) (k : Nat) (hL : L.length ≤ 10000) (hk : k < L.length) : PFun Tryd.prog 23 [encTr L, vI k] (encNs (tellL L k)) := fun σ => by
  refine Contract.of_runs Tryd.func23 e23 k23 (by simp [c23]) ?_
  refine Runs.mix 5 ?_
  (refine Runs.of_step Orc.nothing 300 ?_; simp -implicitDefEqProofs only [BB,seval,← decide_not,okind,vpre,vpure,intBin,intPre,strBin,strPre,popTo,argSlots,fldV,fldAV,subCells,idxVV,idxAAV,idxSV,sliceV,sliceSV,boundV,szIs,storeOp,storeS,setRowV,eff,extV,buildV,splice,eqSV,fitsL,eqCells,eqCell,minmaxV,capV,binBV,nilCheckV,bytesV,V.cells,V.stays,Orc.nothing,c23,lenV_encT])
  have hk2 : L.length - 1 - k < L.length := by omega
  have e : (L.length : Int) - 1 - k = ((L.length - 1 - k : Nat) : Int) := by omega
  rw [e]
  simp -implicitDefEqProofs only [BB,seval,← decide_not,okind,vpre,vpure,intBin,intPre,strBin,strPre,popTo,argSlots,fldV,fldAV,subCells,idxVV,idxAAV,idxSV,sliceV,sliceSV,boundV,szIs,storeOp,storeS,setRowV,eff,extV,buildV,splice,eqSV,fitsL,eqCells,eqCell,minmaxV,capV,binBV,nilCheckV,bytesV,V.cells,V.stays,idxAV_encT hk2,loadV_rp_encNs]
  exact ⟨inR_i64 (by omega) (by omega), inR_i64 (by omega) (by omega), RetV.same (by simp [tellL, hk2])⟩
def betweenC (a b : List Nd) : Ed :=
  let x := treesR a; let y := treesR b
  let first := alikeR tellF x y
  let last := alikeR tellL (x.drop first) (y.drop first)
  ⟨1, -1, (x.take first).flatten.length, ((x.drop first).length : Int) - last, ((y.drop first).take ((y.drop first).length - last)).flatten, Sty.zero⟩
def betweenR (a b : List Nd) : Ed := if isB a && isB b then betweenC a b else Ed.zero
end Go.Vc
namespace Go.Vc
open Go.Proofs
theorem flatten_words {L : List (List Nd)} {B : Nat} (h : ∀ l ∈ L, ∀ x ∈ l, x.words.length ≤ B) : ∀ x ∈ L.flatten, x.words.length ≤ B := fun x hx => by
  obtain ⟨l, hl, hx⟩ := List.mem_flatten.1 hx
  exact h l hl x hx
theorem kidsW_cuts {l : List Nd} {e : Nat} (he : e ≤ l.length) : ∀ (m a : Nat), e - a < m → a ≤ e → rowsB l a e = true → ((kidsW l a e).map fun k => cutL l k (k + szI l k.toNat)).flatten = cutL l a e
  | 0, _, h, _, _ => by omega
  | m + 1, a, h, hae, hr => by
    by_cases h0 : a = e
    · subst h0; rw [kidsW_nil (Nat.le_refl _)]; simp [cutL]
    · have hlt : a < e := by omega
      have hal : a < l.length := by omega
      obtain ⟨y1, y2⟩ := rowsB_ends he hr (Nat.le_refl a) hlt
      obtain ⟨hr2, _⟩ := rowsB_next he hr hlt
      have hse := szI_eq hal
      rw [kidsW_cons hlt hal (by omega), ← hse, List.map_cons, List.flatten_cons, kidsW_cuts he m (a + (szI l a).toNat) (by omega) (by omega) hr2]
      simp only [cutL,Int.toNat_natCast]
      have e1 : ((a : Int) + szI l a).toNat - a = (szI l a).toNat := by omega
      rw [e1]
      have e2 : e - a = (szI l a).toNat + (e - (a + (szI l a).toNat)) := by omega
      rw [e2, List.take_add, List.drop_drop]
theorem treesR_flat {l : List Nd} (hb : isB l = true) : (treesR l).flatten = l := by
  have hrows : rowsB l 0 l.length = true := by simp only [isB,Bool.and_eq_true] at hb; exact hb.2
  rw [treesR, kidsR_top hb]
  have := kidsW_cuts (Nat.le_refl _) (l.length + 1) 0 (by omega) (by omega) hrows
  rw [this]
  simp [cutL]
theorem flatten_take_le {L : List (List Nd)} (n : Nat) : (L.take n).flatten.length ≤ L.flatten.length := by
  conv => rhs; rw [← List.take_append_drop n L, List.flatten_append, List.length_append]
  omega
theorem flatten_drop_le {L : List (List Nd)} (n : Nat) : (L.drop n).flatten.length ≤ L.flatten.length := by
  conv => rhs; rw [← List.take_append_drop n L, List.flatten_append, List.length_append]
  omega
set_option maxRecDepth 100000 in
theorem between_c (a b : List Nd) (ha : Hlf a) (hb : Hlf b) : PFun Tryd.prog 7 [encNs a, encNs b] (.tup [encE (betweenR a b), .int .i64 (if isB a && isB b then 0 else 4)]) := fun σ => by
  have ha1 := ha.1
  have hb1 := hb.1
  obtain ⟨res, hres⟩ : ∃ v, v = encE (betweenR a b) := ⟨_, rfl⟩
  rw [← hres]
  refine Contract.of_runs Tryd.func7 e7 k7 (by simp [c7]) ?_
  refine Runs.mix 12 ?_
  (refine Runs.of_step Orc.nothing 300 ?_; simp -implicitDefEqProofs only [BB,seval,← decide_not,okind,vpre,vpure,intBin,intPre,strBin,strPre,popTo,argSlots,fldV,fldAV,subCells,idxVV,idxAAV,idxSV,sliceV,sliceSV,boundV,szIs,storeOp,storeS,setRowV,eff,extV,buildV,splice,eqSV,fitsL,eqCells,eqCell,minmaxV,capV,binBV,nilCheckV,bytesV,V.cells,V.stays,Orc.nothing,c7])
  refine effR_new fun id1 σ1 s1 a1 f1 => ?_
  simp -implicitDefEqProofs only [BB,seval,← decide_not,okind,vpre,vpure,intBin,intPre,strBin,strPre,popTo,argSlots,fldV,fldAV,subCells,idxVV,idxAAV,idxSV,sliceV,sliceSV,boundV,szIs,storeOp,storeS,setRowV,eff,extV,buildV,splice,eqSV,fitsL,eqCells,eqCell,minmaxV,capV,binBV,nilCheckV,bytesV,V.cells,V.stays,a1]
  refine Runs.pcall rfl rfl rfl (isv_c a ha.sml.fine _) ?_
  have hzero : (isB a && isB b) = false → RetV (.tup [.agg [.int .i64 0, .int .i64 0, .int .i64 0, .int .i64 0, .nils, .int .i64 0, .int .i64 0, .int .i64 0, .int .i64 0, .int .i64 0, .int .i64 0, .int .i64 0, .int .i64 0, .int .i64 0, .int .i64 0, .int .i64 0, .int .i64 0], .int .i64 4])
      (upd σ1 id1 ⟨26, 17, [.agg [.int .i64 0, .int .i64 0, .int .i64 0, .int .i64 0, .nils, .int .i64 0, .int .i64 0, .int .i64 0, .int .i64 0, .int .i64 0, .int .i64 0, .int .i64 0, .int .i64 0, .int .i64 0, .int .i64 0, .int .i64 0, .int .i64 0]]⟩)
      fun r σ' => r = .tup [res, .int .i64 (if (isB a && isB b) = true then 0 else 4)] ∧ σ' = σ := fun h => by
    have hr : betweenR a b = Ed.zero := by rw [betweenR, h]; rfl
    rw [hr] at hres
    have hsf := s1.updK f1 (o := ⟨26, 17, [.agg [.int .i64 0, .int .i64 0, .int .i64 0, .int .i64 0, .nils, .int .i64 0, .int .i64 0, .int .i64 0, .int .i64 0, .int .i64 0, .int .i64 0, .int .i64 0, .int .i64 0, .int .i64 0, .int .i64 0, .int .i64 0, .int .i64 0]]⟩)
    refine ⟨.tup [encE Ed.zero, .int .i64 4], σ, hsf, Wk.tup ?_, by rw [hres, h]; rfl, rfl⟩
    simp only [WkL]
    exact ⟨wk_edN hsf 0 0 0 0 Sty.zero, Wk.refl hsf _, trivial⟩
  cases hba : isB a
  · (refine Runs.of_step Orc.nothing 300 ?_; simp -implicitDefEqProofs only [BB,seval,← decide_not,okind,vpre,vpure,intBin,intPre,strBin,strPre,popTo,argSlots,fldV,fldAV,subCells,idxVV,idxAAV,idxSV,sliceV,sliceSV,boundV,szIs,storeOp,storeS,setRowV,eff,extV,buildV,splice,eqSV,fitsL,eqCells,eqCell,minmaxV,capV,binBV,nilCheckV,bytesV,Orc.nothing,a1,V.cells_agg,V.cells_int,V.cells_nils,V.cells_own,V.cells_sl,V.cells_str,V.cells_bool,V.cells_fn,V.cells_ptr,V.cells_rp,V.stays_agg,V.stays_int,V.stays_nils,V.stays_own,V.stays_sl,V.stays_str,V.stays_bool,V.stays_fn,V.stays_ptr,V.stays_rp])
    rw [hba] at hzero
    exact hzero rfl
  · (refine Runs.of_step Orc.nothing 300 ?_; simp -implicitDefEqProofs only [BB,seval,← decide_not,okind,vpre,vpure,intBin,intPre,strBin,strPre,popTo,argSlots,fldV,fldAV,subCells,idxVV,idxAAV,idxSV,sliceV,sliceSV,boundV,szIs,storeOp,storeS,setRowV,eff,extV,buildV,splice,eqSV,fitsL,eqCells,eqCell,minmaxV,capV,binBV,nilCheckV,bytesV,Orc.nothing,a1,V.cells_agg,V.cells_int,V.cells_nils,V.cells_own,V.cells_sl,V.cells_str,V.cells_bool,V.cells_fn,V.cells_ptr,V.cells_rp,V.stays_agg,V.stays_int,V.stays_nils,V.stays_own,V.stays_sl,V.stays_str,V.stays_bool,V.stays_fn,V.stays_ptr,V.stays_rp])
    refine Runs.pcall rfl rfl rfl (isv_c b hb.sml.fine _) ?_
    rw [hba] at hzero
    cases hbb : isB b
    · (refine Runs.of_step Orc.nothing 300 ?_; simp -implicitDefEqProofs only [BB,seval,← decide_not,okind,vpre,vpure,intBin,intPre,strBin,strPre,popTo,argSlots,fldV,fldAV,subCells,idxVV,idxAAV,idxSV,sliceV,sliceSV,boundV,szIs,storeOp,storeS,setRowV,eff,extV,buildV,splice,eqSV,fitsL,eqCells,eqCell,minmaxV,capV,binBV,nilCheckV,bytesV,Orc.nothing,a1,V.cells_agg,V.cells_int,V.cells_nils,V.cells_own,V.cells_sl,V.cells_str,V.cells_bool,V.cells_fn,V.cells_ptr,V.cells_rp,V.stays_agg,V.stays_int,V.stays_nils,V.stays_own,V.stays_sl,V.stays_str,V.stays_bool,V.stays_fn,V.stays_ptr,V.stays_rp])
      rw [hbb] at hzero
      exact hzero rfl
    · (refine Runs.of_step Orc.nothing 300 ?_; simp -implicitDefEqProofs only [BB,seval,← decide_not,okind,vpre,vpure,intBin,intPre,strBin,strPre,popTo,argSlots,fldV,fldAV,subCells,idxVV,idxAAV,idxSV,sliceV,sliceSV,boundV,szIs,storeOp,storeS,setRowV,eff,extV,buildV,splice,eqSV,fitsL,eqCells,eqCell,minmaxV,capV,binBV,nilCheckV,bytesV,Orc.nothing,a1,V.cells_agg,V.cells_int,V.cells_nils,V.cells_own,V.cells_sl,V.cells_str,V.cells_bool,V.cells_fn,V.cells_ptr,V.cells_rp,V.stays_agg,V.stays_int,V.stays_nils,V.stays_own,V.stays_sl,V.stays_str,V.stays_bool,V.stays_fn,V.stays_ptr,V.stays_rp])
      have hr : betweenR a b = betweenC a b := by rw [betweenR, hba, hbb]; rfl
      rw [hr] at hres
      refine Runs.pcall rfl rfl rfl (trees_c a ha.sml.fine hba _) ?_
      (refine Runs.of_step Orc.nothing 300 ?_; simp -implicitDefEqProofs only [BB,seval,← decide_not,okind,vpre,vpure,intBin,intPre,strBin,strPre,popTo,argSlots,fldV,fldAV,subCells,idxVV,idxAAV,idxSV,sliceV,sliceSV,boundV,szIs,storeOp,storeS,setRowV,eff,extV,buildV,splice,eqSV,fitsL,eqCells,eqCell,minmaxV,capV,binBV,nilCheckV,bytesV,V.cells,V.stays,Orc.nothing,a1])
      refine Runs.pcall rfl rfl rfl (trees_c b hb.sml.fine hbb _) ?_
      (refine Runs.of_step Orc.nothing 300 ?_; simp -implicitDefEqProofs only [BB,seval,← decide_not,okind,vpre,vpure,intBin,intPre,strBin,strPre,popTo,argSlots,fldV,fldAV,subCells,idxVV,idxAAV,idxSV,sliceV,sliceSV,boundV,szIs,storeOp,storeS,setRowV,eff,extV,buildV,splice,eqSV,fitsL,eqCells,eqCell,minmaxV,capV,binBV,nilCheckV,bytesV,V.cells,V.stays,Orc.nothing,a1])
      have fx := treesR_flat hba
      have fy := treesR_flat hbb
      have lx := treesR_len a
      have ly := treesR_len b
      have mx : ∀ t ∈ treesR a, t.length ≤ 5000 ∧ ∀ x ∈ t, x.words.length ≤ 1000000000 := fun t ht => ⟨by have := (treesR_mem ht).1; omega, fun x hx => ha.2 x ((treesR_mem ht).2 x hx)⟩
      have my : ∀ t ∈ treesR b, t.length ≤ 5000 ∧ ∀ x ∈ t, x.words.length ≤ 1000000000 := fun t ht => ⟨by have := (treesR_mem ht).1; omega, fun x hx => hb.2 x ((treesR_mem ht).2 x hx)⟩
      unfold betweenC at hres
      simp only at hres
      generalize treesR a = x at *
      generalize treesR b = y at *
      have fine : ∀ (L : List (List Nd)) (k : Nat), (∀ t ∈ L, t.length ≤ 5000 ∧ ∀ x ∈ t, x.words.length ≤ 1000000000) → Fine ((L[k]?).getD []) := fun L k hL => by
        cases h : L[k]? with
        | none => exact ⟨by simp, by simp⟩
        | some t => have := hL t (List.mem_of_getElem? h); exact ⟨by simp; omega, fun z hz => by have := this.2 z (by simpa using hz); omega⟩
      refine Runs.pcall rfl rfl rfl (alike_c tellF 21 x y (by omega) (by omega) tellF_c (fun k _ => fine x k mx) (fun k _ => fine y k my) _) ?_
      have hle := alikeR_le tellF x y
      generalize alikeR tellF x y = first at *
      have hsl1 := fun σ => sliceT_pre (σ := σ) (L := x) (s := first) (by omega) (by omega)
      have hsl2 := fun σ => sliceT_from (σ := σ) (L := x) (s := first) (by omega) (by omega)
      have hsl3 := fun σ => sliceT_from (σ := σ) (L := y) (s := first) (by omega) (by omega)
      simp only [Int.toNat_natCast] at hsl1 hsl2 hsl3
      (refine Runs.of_step Orc.nothing 300 ?_; simp -implicitDefEqProofs only [BB,seval,← decide_not,okind,vpre,vpure,intBin,intPre,strBin,strPre,popTo,argSlots,fldV,fldAV,subCells,idxVV,idxAAV,idxSV,sliceSV,boundV,szIs,storeOp,storeS,setRowV,eff,extV,buildV,splice,eqSV,fitsL,eqCells,eqCell,minmaxV,capV,binBV,nilCheckV,bytesV,V.cells,V.stays,Orc.nothing,a1,hsl1])
      have hcx := concat_c (x.take first) (by simp; omega) (fun t ht => by have := (mx t (List.mem_of_mem_take ht)).1; omega)
      refine Runs.pcall rfl rfl rfl (hcx _) ?_
      (refine Runs.of_step Orc.nothing 300 ?_; simp -implicitDefEqProofs only [BB,seval,← decide_not,okind,vpre,vpure,intBin,intPre,strBin,strPre,popTo,argSlots,fldV,fldAV,subCells,idxVV,idxAAV,idxSV,sliceSV,boundV,szIs,storeOp,storeS,setRowV,eff,extV,buildV,splice,eqSV,fitsL,eqCells,eqCell,minmaxV,capV,binBV,nilCheckV,bytesV,V.cells,V.stays,Orc.nothing,a1,hsl2,hsl3,lenV_encNs])
      have mx2 := fun t (ht : t ∈ x.drop first) => mx t (List.mem_of_mem_drop ht)
      have my2 := fun t (ht : t ∈ y.drop first) => my t (List.mem_of_mem_drop ht)
      refine Runs.pcall rfl rfl rfl (alike_c tellL 23 (x.drop first) (y.drop first) (by simp; omega) (by simp; omega) tellL_c (fun k _ => fine _ _ mx2) (fun k _ => fine _ _ my2) _) ?_
      have hle2 := alikeR_le tellL (x.drop first) (y.drop first)
      generalize alikeR tellL (x.drop first) (y.drop first) = last at *
      have hly : (y.drop first).length ≤ 5000 := by simp; omega
      have hlx : (x.drop first).length ≤ 5000 := by simp; omega
      have hfy := flatten_drop_le (L := y) first
      generalize hxg : x.drop first = x2 at *
      generalize hyg : y.drop first = y2 at *
      have e1 : (y2.length : Int) - last = ((y2.length - last : Nat) : Int) := by omega
      have hsl4 := fun σ => sliceT_pre (σ := σ) (L := y2) (s := (y2.length : Int) - last) (by omega) (by omega)
      have e2 : ((y2.length : Int) - last).toNat = y2.length - last := by omega
      rw [e2] at hsl4
      (refine Runs.of_step Orc.nothing 300 ?_; simp -implicitDefEqProofs only [BB,seval,← decide_not,okind,vpre,vpure,intBin,intPre,strBin,strPre,popTo,argSlots,fldV,fldAV,subCells,idxVV,idxAAV,idxSV,sliceSV,boundV,szIs,storeOp,storeS,setRowV,eff,extV,buildV,splice,eqSV,fitsL,eqCells,eqCell,minmaxV,capV,binBV,nilCheckV,bytesV,V.cells,V.stays,Orc.nothing,a1,lenV_encT,hsl4])
      refine ⟨inR_i64 (by omega) (by omega), ?_⟩
      have hcy := concat_c (y2.take (y2.length - last)) (by simp; omega) (fun t ht => by have := (my2 t (List.mem_of_mem_take ht)).1; omega)
      refine Runs.pcall rfl rfl rfl (hcy _) ?_
      (refine Runs.of_step Orc.nothing 300 ?_; simp -implicitDefEqProofs only [BB,seval,← decide_not,okind,vpre,vpure,intBin,intPre,strBin,strPre,popTo,argSlots,fldV,fldAV,subCells,idxVV,idxAAV,idxSV,sliceV,sliceSV,boundV,szIs,storeOp,storeS,setRowV,eff,extV,buildV,splice,eqSV,fitsL,eqCells,eqCell,minmaxV,capV,binBV,nilCheckV,bytesV,V.cells,V.stays,Orc.nothing,a1,lenV_encT])
      refine ⟨inR_i64 (by omega) (by omega), ?_⟩
      have hsub : Sml (y2.take (y2.length - last)).flatten := ⟨by have := flatten_take_le (L := y2) (y2.length - last); rw [fy] at hfy; omega, flatten_words fun t ht => (my2 t (List.mem_of_mem_take ht)).2⟩
      refine Runs.pcall rfl rfl rfl (own9_c _ hsub _) ?_
      have hsb : ∀ (p m : Int) (s : List Nd), buildV [.int .i64 0, .int .i64 0, .int .i64 0, .int .i64 0, .nils, .int .i64 0, .int .i64 0, .int .i64 0, .int .i64 0, .int .i64 0, .int .i64 0, .int .i64 0, .int .i64 0, .int .i64 0, .int .i64 0, .int .i64 0, .int .i64 0]
          [(0, 1, .int .i64 1), (1, 1, .int .i64 (-1)), (2, 1, .int .i64 p), (3, 1, .int .i64 m), (4, 1, encNs s)] = some [.int .i64 1, .int .i64 (-1), .int .i64 p, .int .i64 m, encNs s, .int .i64 0, .int .i64 0, .int .i64 0, .int .i64 0, .int .i64 0, .int .i64 0, .int .i64 0, .int .i64 0, .int .i64 0, .int .i64 0, .int .i64 0, .int .i64 0] := fun _ _ _ => rfl
      (refine Runs.of_step Orc.nothing 300 ?_; simp -implicitDefEqProofs only [BB,seval,← decide_not,okind,vpre,vpure,intBin,intPre,strBin,strPre,popTo,argSlots,fldV,fldAV,subCells,idxVV,idxAAV,idxSV,sliceV,sliceSV,boundV,szIs,storeOp,storeS,setRowV,eff,extV,splice,eqSV,fitsL,eqCells,eqCell,minmaxV,capV,binBV,nilCheckV,bytesV,Orc.nothing,a1,encNs_cells,encNs_stays,V.cells_agg,V.cells_int,V.cells_nils,V.cells_own,V.cells_sl,V.cells_str,V.cells_bool,V.cells_fn,V.cells_ptr,V.cells_rp,V.stays_agg,V.stays_int,V.stays_nils,V.stays_own,V.stays_sl,V.stays_str,V.stays_bool,V.stays_fn,V.stays_ptr,V.stays_rp,hsb])
      exact RetV.pure (s1.updK f1) (by rw [hres]; rfl)
end Go.Vc
namespace Go.Vc
open Go.Proofs
section
variable {P : Program} {n : Nat} {st : St} {Q : St → Prop} {k : List It}
theorem cop_bin {o : Op} {op : BinOp} {x y : VX} (h : cop P n o = .bin op x y) : ∃ t x0 y0 yt, o = .binOp op t x0 y0 yt ∧ cx n x0 = x ∧ cx n y0 = y := by
  cases o
  case binOp op' t x0 y0 yt =>
    simp only [cop,nilB] at h
    split at h
    · split at h <;> cases h
    · split at h
      · split at h <;> cases h
      · cases h
    · split at h
      · split at h <;> cases h
      · split at h
        · split at h <;> cases h
        · split at h
          · split at h <;> cases h
          · simp only [VOp.bin.injEq] at h
            obtain ⟨rfl, h2, h3⟩ := h
            exact ⟨t, x0, y0, yt, rfl, h2, h3⟩
  case call c =>
    obtain ⟨callee, args, argTypes⟩ := c
    cases callee
    case builtin b => cases b <;> simp only [cop,nilB] at h <;> (repeat' split at h) <;> cases h
    all_goals (simp only [cop,nilB] at h; cases h)
  case unOp op t x => cases op <;> simp only [cop,nilB] at h <;> cases h
  case makeFunc f a b => cases f <;> simp only [cop,nilB] at h <;> (repeat' split at h) <;> cases h
  all_goals (simp only [cop,nilB] at h; (repeat' split at h) <;> cases h)
theorem Runs.addW {i : VIns} {l : List VIns} {x y : VX} {kk : IntKind} {a b : Int} (hw : wantV st.s i.g = some true) (ho : i.op = .bin .add x y) (hx : x.ev st.s = .int kk a) (hy : y.ev st.s = .int kk b)
    (h : Runs P n (.ops l :: k) ⟨putO st.s i.dst (.int kk (kk.wrap (a + b))), st.σ⟩ Q) : Runs P n (.ops (i :: l) :: k) st Q := by
  refine Runs.ins (by rw [ho]; simp) hw fun F hn μ act w o all hi hs next Q' hnext => ?_
  subst hn
  obtain ⟨hop, hd⟩ := cins_op hi
  rw [ho] at hop
  obtain ⟨t, x0, y0, yt, g1, rfl, rfl⟩ := cop_bin hop
  have ex : act.eval x0 = .int kk a := by
    have := rep_cx hs x0
    rw [hx] at this
    simpa [Rep] using this
  have ey : act.eval y0 = .int kk b := by
    have := rep_cx hs y0
    rw [hy] at this
    simpa [Rep] using this
  have hrun : (execOp act.eval o).run P w = .ok (.value (.int kk (kk.wrap (a + b)))) w := by
    unfold execOp
    rw [g1]
    simp [ex, ey, eqGuard, binOp, Op.intArith]
  unfold Oper.wp
  rw [hrun]
  refine hnext _ _ _ ⟨μ, ?_⟩ h
  have := hs.pure (d := o.dst) (v := .int kk (kk.wrap (a + b))) (x := .int kk (kk.wrap (a + b))) (by simp [Rep])
  rw [← hd]
  exact this
end
def wsum (l : List Nd) : Nat := (l.map fun x => x.words.length).sum
def vastR (l : List Nd) : Bool := decide (40 < l.length) || decide (200 < wsum l)
theorem wsum_take {l : List Nd} {i : Nat} (h : i < l.length) : wsum (l.take (i + 1)) = wsum (l.take i) + l[i].words.length := by
  rw [wsum, List.take_succ_eq_append_getElem h, List.map_append, List.sum_append]
  simp [wsum]
theorem wsum_le {l : List Nd} {B : Nat} (h : ∀ x ∈ l, x.words.length ≤ B) : wsum l ≤ l.length * B := by
  induction l with
  | nil => simp [wsum]
  | cons x l ih =>
    have h1 := h x (by simp)
    have h2 := ih fun y hy => h y (by simp [hy])
    simp only [wsum,List.map_cons,List.sum_cons,List.length_cons,Nat.add_mul] at h2 ⊢
    omega
theorem wsum_mem {l : List Nd} {x : Nd} (h : x ∈ l) : x.words.length ≤ wsum l := by
  induction l with
  | nil => simp at h
  | cons y l ih =>
    simp only [wsum,List.map_cons,List.sum_cons]
    rcases List.mem_cons.1 h with rfl | h
    · omega
    · have := ih h; simp only [wsum] at this; omega
theorem vastR_len {l : List Nd} (h : vastR l = false) : Len 40 l := by
  simp only [vastR,Bool.or_eq_false_iff,decide_eq_false_iff_not] at h
  exact ⟨by omega, fun x hx => by have := wsum_mem hx; omega⟩
set_option maxRecDepth 100000 in
theorem vast_c (l : List Nd) (hlen : l.length ≤ 1000000000000) (hw : ∀ x ∈ l, x.words.length ≤ 200000000000000) : PFun Tryd.prog 4 [encNs l] (.bool (vastR l)) := fun σ => by
  refine Contract.of_runs Tryd.func4 e4 k4 (by simp [c4]) ?_
  refine Runs.mix 5 ?_
  (refine Runs.of_step Orc.nothing 300 ?_; simp -implicitDefEqProofs only [BB,seval,← decide_not,okind,vpre,vpure,intBin,intPre,strBin,strPre,popTo,argSlots,fldV,fldAV,subCells,idxVV,idxAAV,idxSV,sliceV,sliceSV,boundV,szIs,storeOp,storeS,setRowV,eff,extV,buildV,splice,eqSV,fitsL,eqCells,eqCell,minmaxV,capV,binBV,nilCheckV,bytesV,V.cells,V.stays,Orc.nothing,c4])
  refine Runs.loop (fun m st => ∃ (i : Nat) (c : Int), i ≤ l.length ∧ m = l.length - i ∧ st.σ = σ ∧ st.s 0 = encNs l ∧ st.s 3 = vI c ∧ (l.length ≤ 40 → c = wsum (l.take i)) ∧ st.s 4 = vI i) l.length ?_ ?_
  · exact ⟨0, 0, by omega, by omega, rfl, rfl, rfl, fun _ => by simp [wsum], rfl⟩
  · rintro m ⟨s, σ'⟩ ⟨i, c, hi, rfl, hσ, h0, h3, hc, h4⟩
    simp only at hσ h0 h3 h4
    subst hσ
    refine Runs.mix 5 ?_
    by_cases hlt : (i : Int) < l.length
    · have hil : i < l.length := by omega
      have hwi := hw _ (List.getElem_mem hil)
      have hws := wsum_take hil
      have hdt : decide ((i : Int) < l.length) = true := decide_eq_true hlt
      (refine Runs.of_step Orc.nothing 20 ?_; simp -implicitDefEqProofs only [BB,seval,← decide_not,okind,vpre,vpure,intBin,intPre,strBin,strPre,popTo,argSlots,fldV,fldAV,subCells,idxVV,idxAAV,idxSV,sliceV,sliceSV,boundV,szIs,storeOp,storeS,setRowV,eff,extV,buildV,splice,eqSV,fitsL,eqCells,eqCell,minmaxV,capV,binBV,nilCheckV,bytesV,V.cells,V.stays,s_zero,Orc.nothing,h0,h3,h4,lenV_encNs,hlt,hdt,idxAV_encNs hil,Nd.cells,lenV_encI,loadV_rp_encI])
      refine Runs.addW rfl rfl rfl rfl ?_
      by_cases h40 : l.length ≤ 40
      · have hc' := hc h40
        have hwr : IntKind.i64.wrap (c + (l[i].words.length : Int)) = c + l[i].words.length := by
          have hsum := wsum_le (l := l.take i) (B := 200000000000000) (fun x hx => hw x (List.mem_of_mem_take hx))
          have : (l.take i).length ≤ 40 := by simp; omega
          have : wsum (l.take i) ≤ 40 * 200000000000000 := Nat.le_trans hsum (Nat.mul_le_mul_right _ this)
          rw [IntKind.wrap_i64]; omega
        rw [hwr]
        (refine Runs.of_step Orc.nothing 300 ?_; simp -implicitDefEqProofs only [BB,seval,← decide_not,okind,vpre,vpure,intBin,intPre,strBin,strPre,popTo,argSlots,fldV,fldAV,subCells,idxVV,idxAAV,idxSV,sliceV,sliceSV,boundV,szIs,storeOp,storeS,setRowV,eff,extV,buildV,splice,eqSV,fitsL,eqCells,eqCell,minmaxV,capV,binBV,nilCheckV,bytesV,V.cells,V.stays,Orc.nothing,h0,h4])
        refine ⟨inR_i64 (by omega) (by omega), _, ?_, i + 1, _, by omega, rfl, rfl, ?_, ?_⟩
        · omega
        · intro _; rw [hws, hc']; omega
        · simp
      · (refine Runs.of_step Orc.nothing 300 ?_; simp -implicitDefEqProofs only [BB,seval,← decide_not,okind,vpre,vpure,intBin,intPre,strBin,strPre,popTo,argSlots,fldV,fldAV,subCells,idxVV,idxAAV,idxSV,sliceV,sliceSV,boundV,szIs,storeOp,storeS,setRowV,eff,extV,buildV,splice,eqSV,fitsL,eqCells,eqCell,minmaxV,capV,binBV,nilCheckV,bytesV,V.cells,V.stays,Orc.nothing,h0,h4])
        refine ⟨inR_i64 (by omega) (by omega), _, ?_, i + 1, _, by omega, rfl, rfl, ?_, ?_⟩
        · omega
        · intro h; omega
        · simp
    · have hie : i = l.length := by omega
      subst hie
      rw [List.take_length] at hc
      have hlt2 : ¬ ((l.length : Int) < l.length) := by omega
      (refine Runs.of_step Orc.nothing 300 ?_; simp -implicitDefEqProofs only [BB,seval,← decide_not,okind,vpre,vpure,intBin,intPre,strBin,strPre,popTo,argSlots,fldV,fldAV,subCells,idxVV,idxAAV,idxSV,sliceV,sliceSV,boundV,szIs,storeOp,storeS,setRowV,eff,extV,buildV,splice,eqSV,fitsL,eqCells,eqCell,minmaxV,capV,binBV,nilCheckV,bytesV,V.cells,V.stays,Orc.nothing,h0,h3,h4,lenV_encNs,hlt2])
      refine And.intro (fun h => ?_) (fun h => ?_)
      · refine RetV.same ?_
        rw [hc (by omega), vastR]
        have h1 : decide (40 < l.length) = false := decide_eq_false (by omega)
        rw [h1, Bool.false_or, V.bool.injEq, Bool.eq_iff_iff, decide_eq_true_eq, decide_eq_true_eq]
        omega
      · refine RetV.same ?_
        have h1 : decide (40 < l.length) = true := decide_eq_true (by omega)
        rw [vastR, h1, Bool.true_or]
end Go.Vc
namespace Go.Vc
def fzLB (g : V → V → Bool) : List V → List V → Bool
  | [], [] => true
  | v :: vs, u :: us => g v u && fzLB g vs us
  | _, _ => false
def fzB : Nat → Tr (Option Ob) → V → V → Bool
  | 0, _, _, _ => false
  | f + 1, σ, v, u => match v with
    | .own id off len => match u with
      | .sl sz rows => match getP none id σ with
        | some ob => Nat.beq ob.sz sz && (Nat.ble (off + len) ob.rows.length && fzLB (fzB f σ) ((ob.rows.drop off).take len) rows)
        | none => false
      | _ => false
    | .nils => match u with
      | .sl _ rows => rows.isEmpty
      | .nils => true
      | _ => false
    | .sl sz rows => match u with
      | .sl sz' rows' => Nat.beq sz sz' && fzLB (fzB f σ) rows rows'
      | _ => false
    | .agg cs => match u with
      | .agg ds => fzLB (fzB f σ) cs ds
      | _ => false
    | .tup cs => match u with
      | .tup ds => fzLB (fzB f σ) cs ds
      | _ => false
    | .int k n => match u with
      | .int k' n' => eqK k k' && eqQ n n'
      | _ => false
    | .bool b => match u with
      | .bool b' => b == b'
      | _ => false
    | .str b => match u with
      | .str b' => decide (b = b')
      | _ => false
    | .nilp => match u with
      | .nilp => true
      | _ => false
    | _ => false
theorem eqQ_iff {a b : Int} (h : eqQ a b = true) : a = b := by
  cases a <;> cases b <;> simp only [eqQ, Bool.false_eq_true] at h
  · rw [Nat.eq_of_beq_eq_true h]
  · rw [Nat.eq_of_beq_eq_true h]
theorem fzB_ok {R : Nat → Nat → Prop} {σt : Tr (Option Ob)} {σ : Store} (hm : Lv R (stF σt) σ) : ∀ (f : Nat) (v u v' : V), fzB f σt v v' = true → VRel R v u → Fz σ (fun a => ∃ c o, R c a ∧ stF σt c = some o) u v'
  | 0, _, _, _, h, _ => by simp [fzB] at h
  | f + 1, v, u, v', h, hr => by
    have hL : ∀ (vs us out : List V), fzLB (fzB f σt) vs out = true → VRelL R vs us → FzL σ (fun a => ∃ c o, R c a ∧ stF σt c = some o) us out := by
      intro vs
      induction vs with
      | nil =>
        intro us out h1 h2
        rw [VRelL.nil_iff] at h2; subst h2
        cases out with
        | nil => exact .nil
        | cons a b => simp [fzLB] at h1
      | cons a vs ih =>
        intro us out h1 h2
        obtain ⟨b, bs, rfl, h3, h4⟩ := VRelL.cons_iff.1 h2
        cases out with
        | nil => simp [fzLB] at h1
        | cons c cs =>
          simp only [fzLB, Bool.and_eq_true] at h1
          exact .cons _ _ _ _ (fzB_ok hm f _ _ _ h1.1 h3) (ih _ _ h1.2 h4)
    have hno : v.noid = true → v' = v → Fz σ (fun a => ∃ c o, R c a ∧ stF σt c = some o) u v' := fun h1 h2 => by
      have := noid_eq v u h1 hr
      rw [this, h2]
      exact .same v h1
    simp only [fzB] at h
    cases v <;> simp only [Bool.false_eq_true] at h
    case own id off len =>
      split at h
      · split at h
        · rename_i ob hob
          simp only [Bool.and_eq_true] at h
          obtain ⟨h1, h2, h3⟩ := h
          simp only [VRel] at hr
          obtain ⟨id', rfl, hR⟩ := hr
          obtain ⟨rows', g1, g2⟩ := hm _ id' ob hR hob
          have := hL _ _ _ h3 ((g2.drop _).take _)
          rw [← Nat.eq_of_beq_eq_true h1]
          exact .own id' _ _ ⟨ob.elem, ob.sz, rows'⟩ _ g1 ⟨_, ob, hR, hob⟩ (by rw [g2.length]; exact Nat.le_of_ble_eq_true h2) this
        · cases h
      · cases h
    case nils =>
      split at h
      · rename_i sz rows
        simp only [VRel] at hr; subst hr
        have : rows = [] := by simpa using h
        subst this
        exact .nil _
      · exact hno rfl rfl
      · cases h
    case sl sz rows =>
      split at h
      · simp only [Bool.and_eq_true] at h
        simp only [VRel] at hr
        obtain ⟨rows', rfl, hr⟩ := hr
        rw [← Nat.eq_of_beq_eq_true h.1]
        exact .sl _ _ _ (hL _ _ _ h.2 hr)
      · cases h
    case agg cs =>
      split at h
      · simp only [VRel] at hr
        obtain ⟨es, rfl, hr⟩ := hr
        exact .agg _ _ (hL _ _ _ h hr)
      · cases h
    case tup cs =>
      split at h
      · simp only [VRel] at hr
        obtain ⟨es, rfl, hr⟩ := hr
        exact .tup _ _ (hL _ _ _ h hr)
      · cases h
    case int k n =>
      split at h
      · simp only [Bool.and_eq_true] at h
        refine hno rfl ?_
        rw [eqQ_iff h.2, of_decide_eq_true h.1]
      · cases h
    case bool b =>
      split at h
      · refine hno rfl ?_
        rw [eq_of_beq h]
      · cases h
    case str b =>
      split at h
      · refine hno rfl ?_
        rw [of_decide_eq_true h]
      · cases h
    case nilp =>
      split at h
      · exact hno rfl rfl
      · cases h
def evTopF (code : FuncId → Option VFn) (fuel : Nat) (f : FuncId) (args : List V) (v : V) : Bool := match evF (evL code fuel) code f args .e 0 0 with
  | some r => fzB 10 r.σ r.v v
  | none => false
theorem PFun.of_evF {P : Program} {code : FuncId → Option VFn} (hcode : CodeOk P code) {fuel : Nat} {f : FuncId} {args : List V} {v : V} (ha : noidL args = true)
    (h : evTopF code fuel f args v = true) : PFun P f args v := by
  intro σ
  unfold evTopF at h
  split at h
  · rename_i r hr
    have hm : MRel σ 0 (fun _ _ => False) (stF .e) 0 σ := ⟨fun _ _ h => h.elim, fun _ _ _ h => h.elim, fun _ _ _ _ _ h => h.elim, fun _ _ _ _ h => h.elim, SubStore.refl σ, fun _ _ _ _ _ h => h.elim⟩
    refine (call_ok hcode (evL_ok hcode fuel) f args .e 0 0 r hr σ _ σ args hm (noidL_refl args ha)).weak ?_
    rintro u σ' ⟨R', _, h1, h2⟩
    refine ⟨v, σ, h2.keep, (fzB_ok h2.live 10 r.v u v h h1).wk h2.keep ?_, rfl, rfl⟩
    rintro a ⟨c, o, hc, ho⟩
    cases hk : σ a with
    | none => rfl
    | some x => have := h2.kfl a x c o hk hc ho; omega
  · cases h
end Go.Vc
namespace Go.Vc
open Go.Proofs
def mono (w h : Int) : Nd := ⟨3, 1, Sty.zero, 0, 0, [], 0, w, h⟩
def plain36 : Sty := ⟨0, 0, 0, 0, 0, 2, 2, 0, 0, 0, 0, 0⟩
def blk (n : Int) : Nd := ⟨1, n, plain36, 0, 0, [], 0, 0, 0⟩
def s123 : List UInt8 := [123, 49, 32, 49, 125, 123, 50, 32, 50, 125, 123, 51, 32, 51, 125]
def s45 : List UInt8 := [123, 52, 32, 52, 125, 123, 53, 32, 53, 125]
def s13 : List UInt8 := [123, 49, 32, 49, 125, 123, 51, 32, 51, 125]
def s1453 : List UInt8 := [123, 49, 32, 49, 125, 123, 52, 32, 52, 125, 123, 53, 32, 53, 125, 123, 51, 32, 51, 125]
def s2 : List UInt8 := [123, 50, 32, 50, 125]
def sb1 : List UInt8 := [91, 123, 49, 32, 49, 125, 93]
def sb12 : List UInt8 := [91, 123, 49, 32, 49, 125, 123, 50, 32, 50, 125, 93]
theorem of123 : PFun Tryd.prog 14 [.str s123] (encNs [mono 1 1, mono 2 2, mono 3 3]) := PFun.of_evF (fuel := 1000) tabA_ok rfl (by kernel_rfl)
theorem of45 : PFun Tryd.prog 14 [.str s45] (encNs [mono 4 4, mono 5 5]) := PFun.of_evF (fuel := 1000) tabA_ok rfl (by kernel_rfl)
theorem of13 : PFun Tryd.prog 14 [.str s13] (encNs [mono 1 1, mono 3 3]) := PFun.of_evF (fuel := 1000) tabA_ok rfl (by kernel_rfl)
theorem of1453 : PFun Tryd.prog 14 [.str s1453] (encNs [mono 1 1, mono 4 4, mono 5 5, mono 3 3]) := PFun.of_evF (fuel := 1000) tabA_ok rfl (by kernel_rfl)
theorem of2 : PFun Tryd.prog 14 [.str s2] (encNs [mono 2 2]) := PFun.of_evF (fuel := 1000) tabA_ok rfl (by kernel_rfl)
theorem ofb1 : PFun Tryd.prog 14 [.str sb1] (encNs [blk 2, mono 1 1]) := PFun.of_evF (fuel := 1000) tabA_ok rfl (by kernel_rfl)
theorem ofb12 : PFun Tryd.prog 14 [.str sb12] (encNs [blk 3, mono 1 1, mono 2 2]) := PFun.of_evF (fuel := 1000) tabA_ok rfl (by kernel_rfl)
theorem of0 : PFun Tryd.prog 14 [.str []] (encNs []) := PFun.of_evF (fuel := 1000) tabA_ok rfl (by kernel_rfl)
theorem plain36_c : PFun Tryd.prog 18 [] (.agg plain36.cells) := PFun.of_evF (fuel := 1000) tabA_ok rfl (by kernel_rfl)
set_option maxRecDepth 100000 in
theorem swapS_c (s : List UInt8) (L : List Nd) (into p many : Int) (h : PFun Tryd.prog 14 [.str s] (encNs L)) : PFun Tryd.prog 15 [vI into, vI p, vI many, .str s] (encE ⟨1, into, p, many, L, Sty.zero⟩) := fun σ => by
  refine Contract.of_runs Tryd.func15 e15 k15 (by simp [c15]) ?_
  refine Runs.mix 9 ?_
  (refine Runs.of_step Orc.nothing 300 ?_; simp -implicitDefEqProofs only [BB,seval,← decide_not,okind,vpre,vpure,intBin,intPre,strBin,strPre,popTo,argSlots,fldV,fldAV,subCells,idxVV,idxAAV,idxSV,sliceV,sliceSV,boundV,szIs,storeOp,storeS,setRowV,eff,extV,buildV,splice,eqSV,fitsL,eqCells,eqCell,minmaxV,capV,binBV,nilCheckV,bytesV,V.cells,V.stays,Orc.nothing,c15])
  refine effR_new fun id1 σ1 s1 a1 f1 => ?_
  simp -implicitDefEqProofs only [BB,seval,← decide_not,okind,vpre,vpure,intBin,intPre,strBin,strPre,popTo,argSlots,fldV,fldAV,subCells,idxVV,idxAAV,idxSV,sliceV,sliceSV,boundV,szIs,storeOp,storeS,setRowV,eff,extV,buildV,splice,eqSV,fitsL,eqCells,eqCell,minmaxV,capV,binBV,nilCheckV,bytesV,V.cells,V.stays,a1]
  refine Runs.pcall rfl rfl rfl (h _) ?_
  have hsb : ∀ (i p m : Int) (s : List Nd), buildV [.int .i64 0, .int .i64 0, .int .i64 0, .int .i64 0, .nils, .int .i64 0, .int .i64 0, .int .i64 0, .int .i64 0, .int .i64 0, .int .i64 0, .int .i64 0, .int .i64 0, .int .i64 0, .int .i64 0, .int .i64 0, .int .i64 0]
      [(0, 1, .int .i64 1), (1, 1, vI i), (2, 1, vI p), (3, 1, vI m), (4, 1, encNs s)] = some [.int .i64 1, .int .i64 i, .int .i64 p, .int .i64 m, encNs s, .int .i64 0, .int .i64 0, .int .i64 0, .int .i64 0, .int .i64 0, .int .i64 0, .int .i64 0, .int .i64 0, .int .i64 0, .int .i64 0, .int .i64 0, .int .i64 0] := fun _ _ _ _ => rfl
  (refine Runs.of_step Orc.nothing 300 ?_; simp -implicitDefEqProofs only [BB,seval,← decide_not,okind,vpre,vpure,intBin,intPre,strBin,strPre,popTo,argSlots,fldV,fldAV,subCells,idxVV,idxAAV,idxSV,sliceV,sliceSV,boundV,szIs,storeOp,storeS,setRowV,eff,extV,splice,eqSV,fitsL,eqCells,eqCell,minmaxV,capV,binBV,nilCheckV,bytesV,Orc.nothing,a1,encNs_cells,encNs_stays,V.cells_agg,V.cells_int,V.cells_nils,V.cells_own,V.cells_sl,V.cells_str,V.cells_bool,V.cells_fn,V.cells_ptr,V.cells_rp,V.stays_agg,V.stays_int,V.stays_nils,V.stays_own,V.stays_sl,V.stays_str,V.stays_bool,V.stays_fn,V.stays_ptr,V.stays_rp,hsb])
  exact RetV.pure (s1.updK f1) rfl
end Go.Vc
namespace Go.Vc
open Go.Proofs
set_option maxRecDepth 100000 in
theorem does_c (s w : List UInt8) (L Lw : List Nd) (x : Ed) (h : PFun Tryd.prog 14 [.str s] (encNs L)) (hw : PFun Tryd.prog 14 [.str w] (encNs Lw)) (hl : Hlf L) (hx : Hlf x.sub) (hlw : Fine Lw) :
    PFun Tryd.prog 16 [.str s, encE x, .str w] (.bool (decide (doR L x = some Lw))) := fun σ => by
  have hdc := do_c L x hl hx
  refine Contract.of_runs Tryd.func16 e16 k16 (by simp [c16]) ?_
  refine Runs.mix 9 ?_
  obtain ⟨cs, hcs⟩ : ∃ v, v = encE x := ⟨_, rfl⟩
  have hcc : cs.cells.length = 17 := by rw [hcs]; rfl
  have hcst : cs.stays = true := by rw [hcs]; rfl
  have hcl : V.agg cs.cells = cs := by rw [hcs]; rfl
  rw [← hcs] at hdc ⊢
  (refine Runs.of_step Orc.nothing 300 ?_; simp -implicitDefEqProofs only [BB,seval,← decide_not,okind,vpre,vpure,intBin,intPre,strBin,strPre,popTo,argSlots,fldV,fldAV,subCells,idxVV,idxAAV,idxSV,sliceV,sliceSV,boundV,szIs,storeOp,storeS,setRowV,eff,extV,buildV,splice,eqSV,fitsL,eqCells,eqCell,minmaxV,capV,binBV,nilCheckV,bytesV,Orc.nothing,c16,hcc,hcst,V.cells_agg,V.cells_int,V.cells_nils,V.cells_own,V.cells_sl,V.cells_str,V.cells_bool,V.cells_fn,V.cells_ptr,V.cells_rp,V.stays_agg,V.stays_int,V.stays_nils,V.stays_own,V.stays_sl,V.stays_str,V.stays_bool,V.stays_fn,V.stays_ptr,V.stays_rp])
  refine effR_new fun id1 σ1 s1 a1 f1 => ?_
  simp -implicitDefEqProofs only [BB,seval,← decide_not,okind,vpre,vpure,intBin,intPre,strBin,strPre,popTo,argSlots,fldV,fldAV,subCells,idxVV,idxAAV,idxSV,sliceV,sliceSV,boundV,szIs,storeOp,storeS,setRowV,eff,extV,buildV,splice,eqSV,fitsL,eqCells,eqCell,minmaxV,capV,binBV,nilCheckV,bytesV,V.cells,V.stays,a1]
  refine Go.pcall rfl h ?_
  (refine Go.of_step Orc.nothing 300 _ _ ?_; simp -implicitDefEqProofs only [BB,seval,← decide_not,okind,vpre,vpure,intBin,intPre,strBin,strPre,popTo,argSlots,fldV,fldAV,subCells,idxVV,idxAAV,idxSV,sliceV,sliceSV,boundV,szIs,storeOp,storeS,setRowV,eff,extV,buildV,splice,eqSV,fitsL,eqCells,eqCell,minmaxV,capV,binBV,nilCheckV,bytesV,Orc.nothing,a1,hcc,hcl,V.cells_agg,V.cells_int,V.cells_nils,V.cells_own,V.cells_sl,V.cells_str,V.cells_bool,V.cells_fn,V.cells_ptr,V.cells_rp,V.stays_agg,V.stays_int,V.stays_nils,V.stays_own,V.stays_sl,V.stays_str,V.stays_bool,V.stays_fn,V.stays_ptr,V.stays_rp])
  refine Go.pcall rfl hdc ?_
  have hsml := fun out (ho : doR L x = some out) => (outR_sml hl (doR_some ho).1 hx (doR_some ho).2.2.1)
  cases hd : doR L x with
  | none =>
    (refine Go.of_step Orc.nothing 300 _ _ ?_; simp -implicitDefEqProofs only [BB,seval,← decide_not,okind,vpre,vpure,intBin,intPre,strBin,strPre,popTo,argSlots,fldV,fldAV,subCells,idxVV,idxAAV,idxSV,sliceV,sliceSV,boundV,szIs,storeOp,storeS,setRowV,eff,extV,buildV,splice,eqSV,fitsL,eqCells,eqCell,minmaxV,capV,binBV,nilCheckV,bytesV,V.cells,V.stays,Orc.nothing,errV,optV,Option.isSome_none,Option.getD_none])
    exact RetV.pure s1 (by simp)
  | some out =>
    (refine Go.of_step Orc.nothing 300 _ _ ?_; simp -implicitDefEqProofs only [BB,seval,← decide_not,okind,vpre,vpure,intBin,intPre,strBin,strPre,popTo,argSlots,fldV,fldAV,subCells,idxVV,idxAAV,idxSV,sliceV,sliceSV,boundV,szIs,storeOp,storeS,setRowV,eff,extV,buildV,splice,eqSV,fitsL,eqCells,eqCell,minmaxV,capV,binBV,nilCheckV,bytesV,V.cells,V.stays,Orc.nothing,errV,optV,Option.isSome_some,Option.getD_some])
    refine Runs.pcall rfl rfl rfl (hw _) ?_
    (refine Runs.of_step Orc.nothing 300 ?_; simp -implicitDefEqProofs only [BB,seval,← decide_not,okind,vpre,vpure,intBin,intPre,strBin,strPre,popTo,argSlots,fldV,fldAV,subCells,idxVV,idxAAV,idxSV,sliceV,sliceSV,boundV,szIs,storeOp,storeS,setRowV,eff,extV,buildV,splice,eqSV,fitsL,eqCells,eqCell,minmaxV,capV,binBV,nilCheckV,bytesV,V.cells,V.stays,Orc.nothing])
    refine Runs.pcall rfl rfl rfl (same5_c out Lw (hsml out hd).fine hlw _) ?_
    (refine Runs.of_step Orc.nothing 300 ?_; simp -implicitDefEqProofs only [BB,seval,← decide_not,okind,vpre,vpure,intBin,intPre,strBin,strPre,popTo,argSlots,fldV,fldAV,subCells,idxVV,idxAAV,idxSV,sliceV,sliceSV,boundV,szIs,storeOp,storeS,setRowV,eff,extV,buildV,splice,eqSV,fitsL,eqCells,eqCell,minmaxV,capV,binBV,nilCheckV,bytesV,V.cells,V.stays,Orc.nothing])
    exact RetV.pure s1 (by simp)
set_option maxRecDepth 100000 in
theorem none_c (s : List UInt8) (L : List Nd) (x : Ed) (h : PFun Tryd.prog 14 [.str s] (encNs L)) (hl : Hlf L) (hx : Hlf x.sub) (hd : doR L x = none) :
    PFun Tryd.prog 17 [.str s, encE x] (.bool true) := fun σ => by
  have hdc := do_c L x hl hx
  have hbc := back_c L x hl hx
  rw [backC, hd] at hbc
  rw [hd] at hdc
  simp only [errV,optV,Option.isSome_none,Option.getD_none,Bool.false_eq_true,if_false] at hdc hbc
  obtain ⟨cs, hcs⟩ : ∃ v, v = encE x := ⟨_, rfl⟩
  have hcc : cs.cells.length = 17 := by rw [hcs]; rfl
  have hcst : cs.stays = true := by rw [hcs]; rfl
  have hcl : V.agg cs.cells = cs := by rw [hcs]; rfl
  rw [← hcs] at hdc hbc ⊢
  refine Contract.of_runs Tryd.func17 e17 k17 (by simp [c17]) ?_
  refine Runs.mix 9 ?_
  (refine Runs.of_step Orc.nothing 300 ?_; simp -implicitDefEqProofs only [BB,seval,← decide_not,okind,vpre,vpure,intBin,intPre,strBin,strPre,popTo,argSlots,fldV,fldAV,subCells,idxVV,idxAAV,idxSV,sliceV,sliceSV,boundV,szIs,storeOp,storeS,setRowV,eff,extV,buildV,splice,eqSV,fitsL,eqCells,eqCell,minmaxV,capV,binBV,nilCheckV,bytesV,Orc.nothing,c17,hcc,hcst,V.cells_agg,V.cells_int,V.cells_nils,V.cells_own,V.cells_sl,V.cells_str,V.cells_bool,V.cells_fn,V.cells_ptr,V.cells_rp,V.stays_agg,V.stays_int,V.stays_nils,V.stays_own,V.stays_sl,V.stays_str,V.stays_bool,V.stays_fn,V.stays_ptr,V.stays_rp])
  refine effR_new fun id1 σ1 s1 a1 f1 => ?_
  simp -implicitDefEqProofs only [BB,seval,← decide_not,okind,vpre,vpure,intBin,intPre,strBin,strPre,popTo,argSlots,fldV,fldAV,subCells,idxVV,idxAAV,idxSV,sliceV,sliceSV,boundV,szIs,storeOp,storeS,setRowV,eff,extV,buildV,splice,eqSV,fitsL,eqCells,eqCell,minmaxV,capV,binBV,nilCheckV,bytesV,V.cells,V.stays,a1]
  refine Go.pcall rfl h ?_
  (refine Go.of_step Orc.nothing 300 _ _ ?_; simp -implicitDefEqProofs only [BB,seval,← decide_not,okind,vpre,vpure,intBin,intPre,strBin,strPre,popTo,argSlots,fldV,fldAV,subCells,idxVV,idxAAV,idxSV,sliceV,sliceSV,boundV,szIs,storeOp,storeS,setRowV,eff,extV,buildV,splice,eqSV,fitsL,eqCells,eqCell,minmaxV,capV,binBV,nilCheckV,bytesV,Orc.nothing,a1,hcc,hcl,V.cells_agg,V.cells_int,V.cells_nils,V.cells_own,V.cells_sl,V.cells_str,V.cells_bool,V.cells_fn,V.cells_ptr,V.cells_rp,V.stays_agg,V.stays_int,V.stays_nils,V.stays_own,V.stays_sl,V.stays_str,V.stays_bool,V.stays_fn,V.stays_ptr,V.stays_rp])
  refine Go.pcall rfl hdc ?_
  (refine Go.of_step Orc.nothing 300 _ _ ?_; simp -implicitDefEqProofs only [BB,seval,← decide_not,okind,vpre,vpure,intBin,intPre,strBin,strPre,popTo,argSlots,fldV,fldAV,subCells,idxVV,idxAAV,idxSV,sliceV,sliceSV,boundV,szIs,storeOp,storeS,setRowV,eff,extV,buildV,splice,eqSV,fitsL,eqCells,eqCell,minmaxV,capV,binBV,nilCheckV,bytesV,V.cells,V.stays,Orc.nothing])
  refine Go.pcall rfl h ?_
  (refine Go.of_step Orc.nothing 300 _ _ ?_; simp -implicitDefEqProofs only [BB,seval,← decide_not,okind,vpre,vpure,intBin,intPre,strBin,strPre,popTo,argSlots,fldV,fldAV,subCells,idxVV,idxAAV,idxSV,sliceV,sliceSV,boundV,szIs,storeOp,storeS,setRowV,eff,extV,buildV,splice,eqSV,fitsL,eqCells,eqCell,minmaxV,capV,binBV,nilCheckV,bytesV,Orc.nothing,a1,hcc,hcl,V.cells_agg,V.cells_int,V.cells_nils,V.cells_own,V.cells_sl,V.cells_str,V.cells_bool,V.cells_fn,V.cells_ptr,V.cells_rp,V.stays_agg,V.stays_int,V.stays_nils,V.stays_own,V.stays_sl,V.stays_str,V.stays_bool,V.stays_fn,V.stays_ptr,V.stays_rp])
  refine Go.pcall rfl hbc ?_
  (refine Go.of_step Orc.nothing 300 _ _ ?_; simp -implicitDefEqProofs only [BB,seval,← decide_not,okind,vpre,vpure,intBin,intPre,strBin,strPre,popTo,argSlots,fldV,fldAV,subCells,idxVV,idxAAV,idxSV,sliceV,sliceSV,boundV,szIs,storeOp,storeS,setRowV,eff,extV,buildV,splice,eqSV,fitsL,eqCells,eqCell,minmaxV,capV,binBV,nilCheckV,bytesV,V.cells,V.stays,Orc.nothing])
  refine effD_new fun id2 σ2 s2 a2 f2 => ?_
  simp -implicitDefEqProofs only [BB,seval,← decide_not,okind,vpre,vpure,intBin,intPre,strBin,strPre,popTo,argSlots,fldV,fldAV,subCells,idxVV,idxAAV,idxSV,sliceV,sliceSV,boundV,szIs,storeOp,storeS,setRowV,eff,extV,buildV,splice,eqSV,fitsL,eqCells,eqCell,minmaxV,capV,binBV,nilCheckV,bytesV,a2,V.cells_agg,V.cells_int,V.cells_nils,V.cells_own,V.cells_sl,V.cells_str,V.cells_bool,V.cells_fn,V.cells_ptr,V.cells_rp,V.stays_agg,V.stays_int,V.stays_nils,V.stays_own,V.stays_sl,V.stays_str,V.stays_bool,V.stays_fn,V.stays_ptr,V.stays_rp,encE,Ed.cells,Ed.zero,Sty.zero,encNs_cells,encNs_stays,lenV_encNs]
  exact RetV.pure ((s1.trans s2).updK (s1.none f2)) rfl
section
variable {P : Program} {n : Nat} {st : St} {Q : St → Prop} {k : List It}
theorem Go.pcallE {i : VIns} {l : List VIns} {fx : VX} {xs : List VX} {f : FuncId} {caps : List V} {v : V} (hw : wantV st.s i.g = some true) (ho : i.op = .call fx xs)
    (hf : fx.ev st.s = .fn f caps) (hc : PFun P f (xs.map (·.ev st.s) ++ caps) v) (h : Go P n (.d l k) ⟨putO st.s i.dst v, st.σ⟩ Q) : Go P n (.d (i :: l) k) st Q := by
  refine T_true hw ?_
  rw [ho]
  exact ⟨f, caps, v, hf, fun σ1 _ => hc σ1, h⟩
end
theorem hlf_small {l : List Nd} (h : l.length ≤ 5000) (h2 : l.all (fun x => decide (x.words.length ≤ 1000000000)) = true) : Hlf l := ⟨h, fun x hx => by simpa using List.all_eq_true.1 h2 x hx⟩
def L123 : List Nd := [mono 1 1, mono 2 2, mono 3 3]
def E45 : Ed := ⟨1, -1, 1, 1, [mono 4 4, mono 5 5], Sty.zero⟩
def B45 : Ed := ⟨1, -1, 1, 2, [mono 2 2], Sty.zero⟩
def L13 : List Nd := [mono 1 1, mono 3 3]
def Bt : Ed := ⟨1, -1, 1, 1, [], Sty.zero⟩
def Lb1 : List Nd := [blk 2, mono 1 1]
def Lb12 : List Nd := [blk 3, mono 1 1, mono 2 2]
def E2 : Ed := ⟨1, 0, 2, 0, [mono 2 2], Sty.zero⟩
def E3 : Ed := ⟨1, -1, 1, 0, [], Sty.zero⟩
def E4 : Ed := ⟨1, 0, 3, 0, [], Sty.zero⟩
def E5 : Ed := ⟨2, 0, 1, 0, [], plain36⟩
set_option maxRecDepth 100000 in
theorem x1 : doR L123 E45 = some [mono 1 1, mono 4 4, mono 5 5, mono 3 3] := by rw [doR_F]; decide +kernel
set_option maxRecDepth 100000 in
theorem x2 : backC L123 E45 = B45 := by rw [backC, x1]; decide +kernel
set_option maxRecDepth 100000 in
theorem x3 : betweenR L123 L13 = Bt ∧ (isB L123 && isB L13) = true := by rw [betweenR, isB_F, isB_F]; decide +kernel
set_option maxRecDepth 100000 in
theorem x4 : doR Lb1 E2 = some Lb12 := by rw [doR_F]; decide +kernel
set_option maxRecDepth 100000 in
theorem x5 : doR Lb1 E3 = none ∧ doR Lb1 E4 = none ∧ doR Lb1 E5 = none := by simp only [doR_F]; decide +kernel
theorem hl123 : Hlf L123 := hlf_small (by decide) (by decide)
theorem hl13 : Hlf L13 := hlf_small (by decide) (by decide)
theorem hlb1 : Hlf Lb1 := hlf_small (by decide) (by decide)
set_option maxRecDepth 100000 in
theorem awake36_c : PFun Tryd.prog 6 [] (.bool true) := fun σ => by
  have d1 := back_c L123 E45 hl123 (hlf_small (by decide) (by decide))
  rw [x1, x2] at d1
  have d2 := between_c L123 L13 hl123 hl13
  rw [x3.1, x3.2] at d2
  simp only [if_true,errV,Option.isSome_some] at d1 d2
  have d3 := does_c s123 s1453 L123 [mono 1 1, mono 4 4, mono 5 5, mono 3 3] E45 of123 of1453 hl123 (hlf_small (by decide) (by decide)) (hlf_small (by decide) (by decide)).sml.fine
  rw [x1] at d3
  have d4 := sameE_c B45 B45 (hlf_small (by decide) (by decide)).sml.fine (hlf_small (by decide) (by decide)).sml.fine
  have d5 := does_c sb1 sb12 Lb1 Lb12 E2 ofb1 ofb12 hlb1 (hlf_small (by decide) (by decide)) (hlf_small (by decide) (by decide)).sml.fine
  rw [x4] at d5
  have d6 := none_c sb1 Lb1 E3 ofb1 hlb1 (hlf_small (by decide) (by decide)) x5.1
  have d7 := none_c sb1 Lb1 E4 ofb1 hlb1 (hlf_small (by decide) (by decide)) x5.2.1
  have d8 := none_c sb1 Lb1 E5 ofb1 hlb1 (hlf_small (by decide) (by decide)) x5.2.2
  have d9 := sameE_c Bt Bt (hlf_small (by decide) (by decide)).sml.fine (hlf_small (by decide) (by decide)).sml.fine
  simp only [decide_true] at d3 d4 d5 d9
  obtain ⟨e1, he1⟩ : ∃ v, v = encE B45 := ⟨_, rfl⟩
  have c1 : e1.cells.length = 17 := by rw [he1]; rfl
  have t1 : e1.stays = true := by rw [he1]; rfl
  have a1' : V.agg e1.cells = e1 := by rw [he1]; rfl
  obtain ⟨e2, he2⟩ : ∃ v, v = encE Bt := ⟨_, rfl⟩
  have c2 : e2.cells.length = 17 := by rw [he2]; rfl
  have t2 : e2.stays = true := by rw [he2]; rfl
  have a2' : V.agg e2.cells = e2 := by rw [he2]; rfl
  have w1 := swapS_c s45 _ (-1) 1 1 of45
  have w2 := swapS_c s2 _ (-1) 1 2 of2
  have w3 := swapS_c s2 _ 0 2 0 of2
  have w4 := swapS_c [] _ (-1) 1 0 of0
  have w5 := swapS_c [] _ 0 3 0 of0
  have w6 := swapS_c [] _ (-1) 1 1 of0
  change PFun Tryd.prog 15 _ (encE B45) at w2
  change PFun Tryd.prog 15 _ (encE Bt) at w6
  rw [← he1] at d1 d4 w2
  rw [← he2] at d2 d9 w6
  refine Contract.of_runs Tryd.func6 e6 k6 (by simp [c6]) ?_
  refine Runs.mix 5 ?_
  (refine Runs.of_step Orc.nothing 300 ?_; simp -implicitDefEqProofs only [BB,seval,← decide_not,okind,vpre,vpure,intBin,intPre,strBin,strPre,popTo,argSlots,fldV,fldAV,subCells,idxVV,idxAAV,idxSV,sliceV,sliceSV,boundV,szIs,storeOp,storeS,setRowV,eff,extV,buildV,splice,eqSV,fitsL,eqCells,eqCell,minmaxV,capV,binBV,nilCheckV,bytesV,V.cells,V.stays,Orc.nothing,c6])
  refine Runs.pcall rfl rfl rfl (of123 _) ?_
  (refine Runs.of_step Orc.nothing 300 ?_; simp -implicitDefEqProofs only [BB,seval,← decide_not,okind,vpre,vpure,intBin,intPre,strBin,strPre,popTo,argSlots,fldV,fldAV,subCells,idxVV,idxAAV,idxSV,sliceV,sliceSV,boundV,szIs,storeOp,storeS,setRowV,eff,extV,buildV,splice,eqSV,fitsL,eqCells,eqCell,minmaxV,capV,binBV,nilCheckV,bytesV,V.cells,V.stays,Orc.nothing])
  refine Runs.pcall rfl rfl rfl (w1 _) ?_
  (refine Runs.of_step Orc.nothing 300 ?_; simp -implicitDefEqProofs only [BB,seval,← decide_not,okind,vpre,vpure,intBin,intPre,strBin,strPre,popTo,argSlots,fldV,fldAV,subCells,idxVV,idxAAV,idxSV,sliceV,sliceSV,boundV,szIs,storeOp,storeS,setRowV,eff,extV,buildV,splice,eqSV,fitsL,eqCells,eqCell,minmaxV,capV,binBV,nilCheckV,bytesV,V.cells,V.stays,Orc.nothing])
  refine Runs.pcall rfl rfl rfl (d1 _) ?_
  (refine Runs.of_step Orc.nothing 300 ?_; simp -implicitDefEqProofs only [BB,seval,← decide_not,okind,vpre,vpure,intBin,intPre,strBin,strPre,popTo,argSlots,fldV,fldAV,subCells,idxVV,idxAAV,idxSV,sliceV,sliceSV,boundV,szIs,storeOp,storeS,setRowV,eff,extV,buildV,splice,eqSV,fitsL,eqCells,eqCell,minmaxV,capV,binBV,nilCheckV,bytesV,Orc.nothing,V.cells_agg,V.cells_int,V.cells_nils,V.cells_own,V.cells_sl,V.cells_str,V.cells_bool,V.cells_fn,V.cells_ptr,V.cells_rp,V.stays_agg,V.stays_int,V.stays_nils,V.stays_own,V.stays_sl,V.stays_str,V.stays_bool,V.stays_fn,V.stays_ptr,V.stays_rp,c1,t1,a1'])
  refine effR_new fun id1 σ1 s1 a1 f1 => ?_
  simp -implicitDefEqProofs only [BB,seval,← decide_not,okind,vpre,vpure,intBin,intPre,strBin,strPre,popTo,argSlots,fldV,fldAV,subCells,idxVV,idxAAV,idxSV,sliceV,sliceSV,boundV,szIs,storeOp,storeS,setRowV,eff,extV,buildV,splice,eqSV,fitsL,eqCells,eqCell,minmaxV,capV,binBV,nilCheckV,bytesV,a1,V.cells_agg,V.cells_int,V.cells_nils,V.cells_own,V.cells_sl,V.cells_str,V.cells_bool,V.cells_fn,V.cells_ptr,V.cells_rp,V.stays_agg,V.stays_int,V.stays_nils,V.stays_own,V.stays_sl,V.stays_str,V.stays_bool,V.stays_fn,V.stays_ptr,V.stays_rp,c1,t1,a1']
  refine Runs.pcall rfl rfl rfl (of123 _) ?_
  (refine Runs.of_step Orc.nothing 300 ?_; simp -implicitDefEqProofs only [BB,seval,← decide_not,okind,vpre,vpure,intBin,intPre,strBin,strPre,popTo,argSlots,fldV,fldAV,subCells,idxVV,idxAAV,idxSV,sliceV,sliceSV,boundV,szIs,storeOp,storeS,setRowV,eff,extV,buildV,splice,eqSV,fitsL,eqCells,eqCell,minmaxV,capV,binBV,nilCheckV,bytesV,V.cells,V.stays,Orc.nothing])
  refine Runs.pcall rfl rfl rfl (of13 _) ?_
  (refine Runs.of_step Orc.nothing 300 ?_; simp -implicitDefEqProofs only [BB,seval,← decide_not,okind,vpre,vpure,intBin,intPre,strBin,strPre,popTo,argSlots,fldV,fldAV,subCells,idxVV,idxAAV,idxSV,sliceV,sliceSV,boundV,szIs,storeOp,storeS,setRowV,eff,extV,buildV,splice,eqSV,fitsL,eqCells,eqCell,minmaxV,capV,binBV,nilCheckV,bytesV,V.cells,V.stays,Orc.nothing])
  refine Runs.pcall rfl rfl rfl (d2 _) ?_
  (refine Runs.of_step Orc.nothing 300 ?_; simp -implicitDefEqProofs only [BB,seval,← decide_not,okind,vpre,vpure,intBin,intPre,strBin,strPre,popTo,argSlots,fldV,fldAV,subCells,idxVV,idxAAV,idxSV,sliceV,sliceSV,boundV,szIs,storeOp,storeS,setRowV,eff,extV,buildV,splice,eqSV,fitsL,eqCells,eqCell,minmaxV,capV,binBV,nilCheckV,bytesV,Orc.nothing,V.cells_agg,V.cells_int,V.cells_nils,V.cells_own,V.cells_sl,V.cells_str,V.cells_bool,V.cells_fn,V.cells_ptr,V.cells_rp,V.stays_agg,V.stays_int,V.stays_nils,V.stays_own,V.stays_sl,V.stays_str,V.stays_bool,V.stays_fn,V.stays_ptr,V.stays_rp,c2,t2,a2'])
  refine effR_new fun id2 σ2 s2 a2 f2 => ?_
  have b1 := s2 _ _ upd_same
  simp -implicitDefEqProofs only [BB,seval,← decide_not,okind,vpre,vpure,intBin,intPre,strBin,strPre,popTo,argSlots,fldV,fldAV,subCells,idxVV,idxAAV,idxSV,sliceV,sliceSV,boundV,szIs,storeOp,storeS,setRowV,eff,extV,buildV,splice,eqSV,fitsL,eqCells,eqCell,minmaxV,capV,binBV,nilCheckV,bytesV,a2,V.cells_agg,V.cells_int,V.cells_nils,V.cells_own,V.cells_sl,V.cells_str,V.cells_bool,V.cells_fn,V.cells_ptr,V.cells_rp,V.stays_agg,V.stays_int,V.stays_nils,V.stays_own,V.stays_sl,V.stays_str,V.stays_bool,V.stays_fn,V.stays_ptr,V.stays_rp,c2,t2,a2']
  refine Go.pcallE rfl rfl rfl w1 ?_
  (refine Go.of_step Orc.nothing 300 _ _ ?_; simp -implicitDefEqProofs only [BB,seval,← decide_not,okind,vpre,vpure,intBin,intPre,strBin,strPre,popTo,argSlots,fldV,fldAV,subCells,idxVV,idxAAV,idxSV,sliceV,sliceSV,boundV,szIs,storeOp,storeS,setRowV,eff,extV,buildV,splice,eqSV,fitsL,eqCells,eqCell,minmaxV,capV,binBV,nilCheckV,bytesV,V.cells,V.stays,Orc.nothing])
  refine Go.pcallE rfl rfl rfl d3 ?_
  (refine Go.of_step Orc.nothing 300 _ _ ?_; simp -implicitDefEqProofs only [BB,seval,← decide_not,okind,vpre,vpure,intBin,intPre,strBin,strPre,popTo,argSlots,fldV,fldAV,subCells,idxVV,idxAAV,idxSV,sliceV,sliceSV,boundV,szIs,storeOp,storeS,setRowV,eff,extV,buildV,splice,eqSV,fitsL,eqCells,eqCell,minmaxV,capV,binBV,nilCheckV,bytesV,Orc.nothing,upd_ne (ne_new upd_same f2),b1,V.cells_agg,V.cells_int,V.cells_nils,V.cells_own,V.cells_sl,V.cells_str,V.cells_bool,V.cells_fn,V.cells_ptr,V.cells_rp,V.stays_agg,V.stays_int,V.stays_nils,V.stays_own,V.stays_sl,V.stays_str,V.stays_bool,V.stays_fn,V.stays_ptr,V.stays_rp,c1,a1'])
  refine Go.pcallE rfl rfl rfl w2 ?_
  (refine Go.of_step Orc.nothing 300 _ _ ?_; simp -implicitDefEqProofs only [BB,seval,← decide_not,okind,vpre,vpure,intBin,intPre,strBin,strPre,popTo,argSlots,fldV,fldAV,subCells,idxVV,idxAAV,idxSV,sliceV,sliceSV,boundV,szIs,storeOp,storeS,setRowV,eff,extV,buildV,splice,eqSV,fitsL,eqCells,eqCell,minmaxV,capV,binBV,nilCheckV,bytesV,V.cells,V.stays,Orc.nothing])
  refine Go.pcallE rfl rfl rfl d4 ?_
  (refine Go.of_step Orc.nothing 300 _ _ ?_; simp -implicitDefEqProofs only [BB,seval,← decide_not,okind,vpre,vpure,intBin,intPre,strBin,strPre,popTo,argSlots,fldV,fldAV,subCells,idxVV,idxAAV,idxSV,sliceV,sliceSV,boundV,szIs,storeOp,storeS,setRowV,eff,extV,buildV,splice,eqSV,fitsL,eqCells,eqCell,minmaxV,capV,binBV,nilCheckV,bytesV,V.cells,V.stays,Orc.nothing])
  refine Go.pcallE rfl rfl rfl w3 ?_
  (refine Go.of_step Orc.nothing 300 _ _ ?_; simp -implicitDefEqProofs only [BB,seval,← decide_not,okind,vpre,vpure,intBin,intPre,strBin,strPre,popTo,argSlots,fldV,fldAV,subCells,idxVV,idxAAV,idxSV,sliceV,sliceSV,boundV,szIs,storeOp,storeS,setRowV,eff,extV,buildV,splice,eqSV,fitsL,eqCells,eqCell,minmaxV,capV,binBV,nilCheckV,bytesV,V.cells,V.stays,Orc.nothing])
  refine Go.pcallE rfl rfl rfl d5 ?_
  (refine Go.of_step Orc.nothing 300 _ _ ?_; simp -implicitDefEqProofs only [BB,seval,← decide_not,okind,vpre,vpure,intBin,intPre,strBin,strPre,popTo,argSlots,fldV,fldAV,subCells,idxVV,idxAAV,idxSV,sliceV,sliceSV,boundV,szIs,storeOp,storeS,setRowV,eff,extV,buildV,splice,eqSV,fitsL,eqCells,eqCell,minmaxV,capV,binBV,nilCheckV,bytesV,V.cells,V.stays,Orc.nothing])
  refine Go.pcallE rfl rfl rfl w4 ?_
  (refine Go.of_step Orc.nothing 300 _ _ ?_; simp -implicitDefEqProofs only [BB,seval,← decide_not,okind,vpre,vpure,intBin,intPre,strBin,strPre,popTo,argSlots,fldV,fldAV,subCells,idxVV,idxAAV,idxSV,sliceV,sliceSV,boundV,szIs,storeOp,storeS,setRowV,eff,extV,buildV,splice,eqSV,fitsL,eqCells,eqCell,minmaxV,capV,binBV,nilCheckV,bytesV,V.cells,V.stays,Orc.nothing])
  refine Go.pcallE rfl rfl rfl d6 ?_
  (refine Go.of_step Orc.nothing 300 _ _ ?_; simp -implicitDefEqProofs only [BB,seval,← decide_not,okind,vpre,vpure,intBin,intPre,strBin,strPre,popTo,argSlots,fldV,fldAV,subCells,idxVV,idxAAV,idxSV,sliceV,sliceSV,boundV,szIs,storeOp,storeS,setRowV,eff,extV,buildV,splice,eqSV,fitsL,eqCells,eqCell,minmaxV,capV,binBV,nilCheckV,bytesV,V.cells,V.stays,Orc.nothing])
  refine Go.pcallE rfl rfl rfl w5 ?_
  (refine Go.of_step Orc.nothing 300 _ _ ?_; simp -implicitDefEqProofs only [BB,seval,← decide_not,okind,vpre,vpure,intBin,intPre,strBin,strPre,popTo,argSlots,fldV,fldAV,subCells,idxVV,idxAAV,idxSV,sliceV,sliceSV,boundV,szIs,storeOp,storeS,setRowV,eff,extV,buildV,splice,eqSV,fitsL,eqCells,eqCell,minmaxV,capV,binBV,nilCheckV,bytesV,V.cells,V.stays,Orc.nothing])
  refine Go.pcallE rfl rfl rfl d7 ?_
  (refine Go.of_step Orc.nothing 300 _ _ ?_; simp -implicitDefEqProofs only [BB,seval,← decide_not,okind,vpre,vpure,intBin,intPre,strBin,strPre,popTo,argSlots,fldV,fldAV,subCells,idxVV,idxAAV,idxSV,sliceV,sliceSV,boundV,szIs,storeOp,storeS,setRowV,eff,extV,buildV,splice,eqSV,fitsL,eqCells,eqCell,minmaxV,capV,binBV,nilCheckV,bytesV,V.cells,V.stays,Orc.nothing])
  refine Go.pcallE rfl rfl rfl plain36_c ?_
  have hbu : buildV [.int .i64 0, .int .i64 0, .int .i64 0, .int .i64 0, .nils, .int .i64 0, .int .i64 0, .int .i64 0, .int .i64 0, .int .i64 0, .int .i64 0, .int .i64 0, .int .i64 0, .int .i64 0, .int .i64 0, .int .i64 0, .int .i64 0]
      [(0, 1, .int .i64 2), (2, 1, .int .i64 1), (5, 12, .agg plain36.cells)] = some [.int .i64 2, .int .i64 0, .int .i64 1, .int .i64 0, .nils, .int .i64 0, .int .i64 0, .int .i64 0, .int .i64 0, .int .i64 0, .int .i64 2, .int .i64 2, .int .i64 0, .int .i64 0, .int .i64 0, .int .i64 0, .int .i64 0] := rfl
  (refine Go.of_step Orc.nothing 300 _ _ ?_; simp -implicitDefEqProofs only [BB,seval,← decide_not,okind,vpre,vpure,intBin,intPre,strBin,strPre,popTo,argSlots,fldV,fldAV,subCells,idxVV,idxAAV,idxSV,sliceV,sliceSV,boundV,szIs,storeOp,storeS,setRowV,eff,extV,splice,eqSV,fitsL,eqCells,eqCell,minmaxV,capV,binBV,nilCheckV,bytesV,V.cells,V.stays,Orc.nothing,hbu])
  have d8' : PFun Tryd.prog 17 [.str sb1, .agg [.int .i64 2, .int .i64 0, .int .i64 1, .int .i64 0, .nils, .int .i64 0, .int .i64 0, .int .i64 0, .int .i64 0, .int .i64 0, .int .i64 2, .int .i64 2, .int .i64 0, .int .i64 0, .int .i64 0, .int .i64 0, .int .i64 0]] (.bool true) :=
    fun σ => PFun.borrow (by simp only [WkL]; exact ⟨Wk.refl (nost_sub σ) _, wk_edN (nost_sub σ) 2 0 1 0 plain36, trivial⟩) d8 rfl
  refine Go.pcallE rfl rfl rfl d8' ?_
  (refine Go.of_step Orc.nothing 300 _ _ ?_; simp -implicitDefEqProofs only [BB,seval,← decide_not,okind,vpre,vpure,intBin,intPre,strBin,strPre,popTo,argSlots,fldV,fldAV,subCells,idxVV,idxAAV,idxSV,sliceV,sliceSV,boundV,szIs,storeOp,storeS,setRowV,eff,extV,buildV,splice,eqSV,fitsL,eqCells,eqCell,minmaxV,capV,binBV,nilCheckV,bytesV,Orc.nothing,V.cells_agg,V.cells_int,V.cells_nils,V.cells_own,V.cells_sl,V.cells_str,V.cells_bool,V.cells_fn,V.cells_ptr,V.cells_rp,V.stays_agg,V.stays_int,V.stays_nils,V.stays_own,V.stays_sl,V.stays_str,V.stays_bool,V.stays_fn,V.stays_ptr,V.stays_rp,a2,c2,a2',upd_same])
  refine Go.pcallE rfl rfl rfl w6 ?_
  (refine Go.of_step Orc.nothing 300 _ _ ?_; simp -implicitDefEqProofs only [BB,seval,← decide_not,okind,vpre,vpure,intBin,intPre,strBin,strPre,popTo,argSlots,fldV,fldAV,subCells,idxVV,idxAAV,idxSV,sliceV,sliceSV,boundV,szIs,storeOp,storeS,setRowV,eff,extV,buildV,splice,eqSV,fitsL,eqCells,eqCell,minmaxV,capV,binBV,nilCheckV,bytesV,V.cells,V.stays,Orc.nothing])
  refine Go.pcallE rfl rfl rfl d9 ?_
  (refine Go.of_step Orc.nothing 300 _ _ ?_; simp -implicitDefEqProofs only [BB,seval,← decide_not,okind,vpre,vpure,intBin,intPre,strBin,strPre,popTo,argSlots,fldV,fldAV,subCells,idxVV,idxAAV,idxSV,sliceV,sliceSV,boundV,szIs,storeOp,storeS,setRowV,eff,extV,buildV,splice,eqSV,fitsL,eqCells,eqCell,minmaxV,capV,binBV,nilCheckV,bytesV,V.cells,V.stays,Orc.nothing])
  exact RetV.pure (((s1.updK f1).trans s2).updK ((s1.updK f1).none f2)) rfl
end Go.Vc
namespace Go.Vc
open Go.Proofs
theorem Srt.inj {a : Int} {l : List Int} (h : Srt a l) {i j : Nat} {x : Int} (hi : l[i]? = some x) (hj : l[j]? = some x) : i = j := by
  rcases Nat.le_total i j with hl | hl
  · have := Srt.lt_of_get h i j x x hl hi hj; omega
  · have := Srt.lt_of_get h j i x x hl hj hi; omega
theorem back_style {l out : List Nd} {x : Ed} (hd : doR l x = some out) (hk : x.kind = 2) : doR out (backR l x) = some l ∧ backR out (backR l x) = x := by
  obtain ⟨hb, hbo, ho, _⟩ := doR_some hd
  rw [outR, if_neg (by omega)] at ho
  obtain ⟨h1, h2, h3, h4, h5⟩ := styleR_some ho
  obtain ⟨p0, plt, pk⟩ := blockR_lt h1
  have hbk : backR l x = ⟨2, 0, x.pos, 0, [], stI l x.pos.toNat⟩ := by rw [backR, if_pos hk]
  have hout : out = l.set x.pos.toNat { l[x.pos.toNat] with st := x.st } := by
    rw [h5, restyle]
    simp only [List.getElem?_eq_getElem plt]
  have hlen : out.length = l.length := by rw [hout]; simp
  have plt2 : x.pos.toNat < out.length := by omega
  have hget : out[x.pos.toNat] = { l[x.pos.toNat] with st := x.st } := by
    subst hout; simp
  rw [hbk]
  constructor
  · have hbl : blockR out x.pos = true := by
      simp only [blockR,Bool.and_eq_true,decide_eq_true_eq]
      refine ⟨hasI_iff.2 ⟨p0, by omega⟩, ?_⟩
      rw [kdI_eq plt2, hget]
      rw [kdI_eq plt] at pk
      exact pk
    have hre : restyle out x.pos.toNat (stI l x.pos.toNat) = l := by
      rw [restyle]
      simp only [List.getElem?_eq_getElem plt2]
      rw [hget, stI_eq plt, hout, List.set_set]
      have : ({ l[x.pos.toNat] with st := l[x.pos.toNat].st } : Nd) = l[x.pos.toNat] := rfl
      rw [this, List.set_getElem_self]
    rw [doR, if_neg (by simp [hbo])]
    have hst : outR out ⟨2, 0, x.pos, 0, [], stI l x.pos.toNat⟩ = some l := by
      rw [outR, if_neg (by simp), styleR, if_neg (by simp [hbl]), hre]
    rw [hst]
    simp [hb]
  · rw [backR, if_pos rfl]
    have : stI out x.pos.toNat = x.st := by rw [stI_eq plt2, hget]
    rw [this]
    rw [edEq]
    simp [hk, h2, h3, h4]
theorem cutL_nat (l : List Nd) (a e : Nat) : cutL l a e = (l.drop a).take (e - a) := by simp [cutL]
set_option maxHeartbeats 1000000 in
theorem back_swap {l out : List Nd} {x : Ed} (hd : doR l x = some out) (hk : x.kind = 1) : doR out (backR l x) = some l ∧ backR out (backR l x) = x := by
  obtain ⟨hb, hbo, ho, _⟩ := doR_some hd
  obtain ⟨kind, into, pos, many, sub, st⟩ := x
  simp only at hk
  subst hk
  rw [outR, if_pos rfl] at ho
  obtain ⟨to, hg, hbs, hz, hout⟩ := swapR_some ho
  simp only at hg hbs hz
  subst hz
  obtain ⟨_, g1, g2, g3, g4, g5, g6, kk, gk1, gk2⟩ := goneR_facts hb hg
  have hin : into = -1 ∨ hasI l into = true := g5.imp id fun h => by simp only [blockR,Bool.and_eq_true] at h; exact h.1
  obtain ⟨a, e, r1, r2, r3, r4, r5, r6⟩ := rowOfI_facts hb hin
  obtain ⟨hp, hs, hle⟩ := placesR_eq hb hin r1
  obtain ⟨p, rfl⟩ : ∃ p : Nat, pos = p := ⟨pos.toNat, by omega⟩
  obtain ⟨t, rfl⟩ : ∃ t : Nat, to = t := ⟨to.toNat, by omega⟩
  have hbk : backR l ⟨1, into, p, many, sub, Sty.zero⟩ = ⟨1, into, p, (kidsR sub (-1)).length, cutL l p t, Sty.zero⟩ := by
    rw [backR, if_neg (by simp)]
    simp only [hg]
  rw [hbk]
  have hpl : p ≤ l.length := by omega
  have htl : t ≤ l.length := by omega
  have hpt : p ≤ t := by omega
  rw [swapL_eq hb (by simp only; omega) g4 (by simp only; omega)] at hout
  simp only [Int.toNat_natCast] at hout
  generalize hn : sub.length = n at *
  have hgl : (grewL l into ((n : Int) - ((t : Int) - p)) p).length = p := by rw [grewL_len]; simp; omega
  have hlen : out.length = p + n + (l.length - t) := by rw [hout]; simp only [List.length_append,hgl,hn,List.length_drop]
  have hA : ∀ i, (h : i < p) → out[i]? = some (if (i : Int) = into ∨ holdsI l i into = true then { l[i]'(by omega) with size := (l[i]'(by omega)).size + ((n : Int) - ((t : Int) - p)) } else l[i]'(by omega)) := by
    intro i hi
    have hil : i < l.length := by omega
    rw [hout, List.append_assoc, List.getElem?_append_left (by omega), grewL, List.getElem?_mapIdx]
    have ht : (l.take p)[i]? = some l[i] := by rw [List.getElem?_take, if_pos hi, List.getElem?_eq_getElem hil]
    rw [ht]
    rfl
  have hB : ∀ j, j < n → out[p + j]? = sub[j]? := by
    intro j hj
    rw [hout, List.append_assoc, app_right hgl (by omega), List.getElem?_append_left (by omega)]
    congr 1; omega
  have hC : ∀ j, out[p + n + j]? = l[t + j]? := by
    intro j
    rw [hout, app_right (n := p + n) (by rw [List.length_append, hgl, hn]) (by omega), List.getElem?_drop]
    congr 1; omega
  have sA : ∀ j, j < p - a → skI l (a + j) = skI out (a + j) := by
    intro j hj
    have hi : a + j < p := by omega
    have h1 := hA (a + j) hi
    rw [if_neg] at h1
    · rw [skI, skI, h1, List.getElem?_eq_getElem (show a + j < l.length by omega)]
    · rintro (h | h)
      · omega
      · rw [holdsI_iff] at h; omega
  have sB : ∀ j, j < n → skI sub (0 + j) = skI out (p + j) := by
    intro j hj
    rw [skI, skI, hB j hj, Nat.zero_add]
  have sC : ∀ j, skI l (t + j) = skI out (p + n + j) := by
    intro j
    rw [skI, skI, hC j]
  -- the row in what is made
  have hte : t ≤ e := by
    have := hle _ (List.mem_of_getElem? gk2)
    omega
  have hpe : p ≤ e := by omega
  have hap : a ≤ p := by omega
  have hszo : ∀ i, (h : i < p) → ((i : Int) = into ∨ holdsI l i into = true) → szI out i = szI l i + ((n : Int) - ((t : Int) - p)) := by
    intro i hi hc
    have h1 := hA i hi
    rw [if_pos hc] at h1
    rw [szI_eq (show i < l.length by omega), szI, h1]
    rfl
  have hszn : ∀ i, (h : i < p) → ¬ ((i : Int) = into ∨ holdsI l i into = true) → szI out i = szI l i := by
    intro i hi hc
    have h1 := hA i hi
    rw [if_neg hc] at h1
    rw [szI_eq (show i < l.length by omega), szI, h1]
    rfl
  have hino : into = -1 ∨ hasI out into = true := by
    rcases hin with h | h
    · exact .inl h
    · right; rw [hasI_iff] at h ⊢; omega
  have r1o : rowOfI out into = (a, p + n + (e - t)) := by
    rw [rowOfI] at r1 ⊢
    split at r1
    · rename_i hi
      rw [if_pos hi, hlen]
      simp only [Prod.mk.injEq] at r1 ⊢
      omega
    · rename_i hi
      rw [if_neg hi]
      simp only [Prod.mk.injEq] at r1 ⊢
      have hi0 : 0 ≤ into := by omega
      have hip : into.toNat < p := by omega
      have hsz := hszo into.toNat hip (.inl (by omega))
      have hb1 := szI_bound hb (show into.toNat < l.length by omega)
      rw [hsz]
      omega
  obtain ⟨a', e', q1, q2, q3, q4, q5, q6⟩ := rowOfI_facts hbo hino
  rw [r1o] at q1
  obtain ⟨rfl, rfl⟩ := Prod.mk.inj q1
  obtain ⟨hpo, hso, hleo⟩ := placesR_eq hbo hino r1o
  -- places in the document
  have hpm : (p : Int) ∈ kidsW l a e ++ [(e : Int)] := by rw [← hp]; exact List.mem_of_getElem? gk1
  have htm : (t : Int) ∈ kidsW l a e ++ [(e : Int)] := by rw [← hp]; exact List.mem_of_getElem? gk2
  obtain ⟨_, _, c1, c2⟩ := rowsB_cut r4 (e - a + 1) a (by omega) r3 r5 p hpm
  have go1 := kidsW_go (p - a + 1) a p e (by omega) hap hpe hpl c1
  obtain ⟨srt1, lt1, _⟩ := kidsW_srt hpl (p - a + 1) a (by omega) hap c1
  have htm2 : (t : Int) ∈ kidsW l p e ++ [(e : Int)] := by
    rw [go1, List.append_assoc, List.mem_append] at htm
    rcases htm with h | h
    · have := lt1 _ h; omega
    · exact h
  obtain ⟨_, _, c3, c4⟩ := rowsB_cut r4 (e - p + 1) p (by omega) hpe c2 t htm2
  have go2 := kidsW_go (t - p + 1) p t e (by omega) hpt hte htl c3
  have hd1 := kidsW_head hpe r4 c2
  have hd2 := kidsW_head hte r4 c4
  have hmany : many = (kidsW l p t).length := by
    have e1 : (placesR l into)[(kidsW l a p).length]? = some (p : Int) := by
      rw [hp, go1, List.append_assoc, List.getElem?_append_right (Nat.le_refl _), Nat.sub_self]; exact hd1
    have e2 : (placesR l into)[(kidsW l a p).length + (kidsW l p t).length]? = some (t : Int) := by
      rw [hp, go1, go2, ← List.append_assoc, List.append_assoc, List.getElem?_append_right (by simp), List.length_append, Nat.sub_self]; exact hd2
    have i1 := Srt.inj hs gk1 e1
    have i2 := Srt.inj hs gk2 e2
    omega
  -- rows of trees in what is made
  have o1 : rowsB out a p = true := by
    have := rowsB_shift (l := l) (l' := out) (p - a + 1) a a (p - a) (by omega) sA
    rw [show a + (p - a) = p by omega] at this
    rw [this]; exact c1
  have hrs : rowsB sub 0 n = true := by
    simp only [isB,Bool.and_eq_true] at hbs
    rw [hn] at hbs
    exact hbs.2
  have o2 : rowsB out p (p + n) = true := by
    have := rowsB_shift (l := sub) (l' := out) (n + 1) 0 p n (by omega) sB
    rw [Nat.zero_add] at this
    rw [this]; exact hrs
  have o3 : rowsB out (p + n) (p + n + (e - t)) = true := by
    have := rowsB_shift (l := l) (l' := out) (e - t + 1) t (p + n) (e - t) (by omega) (fun j _ => sC j)
    rw [show t + (e - t) = e by omega] at this
    rw [this]; exact c4
  have o4 : rowsB out p (p + n + (e - t)) = true := rowsB_join out (n + 1) p (p + n) (p + n + (e - t)) (by omega) (by omega) (by omega) o2 o3
  have go3 := kidsW_go (p - a + 1) a p (p + n + (e - t)) (by omega) hap (by omega) (by omega) o1
  have go4 := kidsW_go (n + 1) p (p + n) (p + n + (e - t)) (by omega) (by omega) (by omega) (by omega) o2
  have hd3 := kidsW_head (by omega) q4 o4
  have hd4 := kidsW_head (by omega) q4 o3
  obtain ⟨_, lt3, _⟩ := kidsW_srt (show p ≤ out.length by omega) (p - a + 1) a (by omega) hap o1
  have hS : (kidsW out p (p + n)).length = (kidsR sub (-1)).length := by
    have := kidsW_shift (l := sub) (l' := out) (n + 1) 0 p n (by omega) sB
    rw [Nat.zero_add] at this
    rw [this, List.length_map, kidsR_top hbs, hn]
  rw [← hS]
  generalize hSg : kidsW out p (p + n) = S at *
  have hgo : goesR out into p S.length = ((p : Int), ((p + n : Nat) : Int), true) := by
    have hnb : ¬ (into ≠ -1 ∧ blockR out into = false) := by
      rintro ⟨h1, h2⟩
      rcases g5 with h | h
      · exact h1 h
      · obtain ⟨b0, blt, bk⟩ := blockR_lt h
        have hip : into.toNat < p := by omega
        have : blockR out into = true := by
          simp only [blockR,Bool.and_eq_true,decide_eq_true_eq]
          refine ⟨hasI_iff.2 ⟨b0, by omega⟩, ?_⟩
          have h1 := hA into.toNat hip
          rw [kdI_eq blt] at bk
          rw [kdI, h1, Option.map_some, Option.getD_some]
          split <;> exact bk
        rw [this] at h2; cases h2
    have hidx : idxI (p : Int) (placesR out into) 0 = ((kidsW out a p).length : Int) := by
      rw [hpo, go3, List.append_assoc, idxI_at (fun y hy => by have := lt3 y hy; omega) hd3, Nat.zero_add]
    have hl2 : (placesR out into).length = (kidsW out a p).length + (S.length + (kidsW out (p + n) (p + n + (e - t))).length) + 1 := by
      rw [hpo, go3, go4]; simp only [List.length_append,List.length_cons,List.length_nil,Nat.zero_add]
    rw [goesR, if_neg hnb, hidx, if_neg (by rw [hl2]; omega)]
    have e2 : ((kidsW out a p).length + (S.length : Int)).toNat = (kidsW out a p).length + S.length := by omega
    rw [e2]
    have e3 : (placesR out into)[(kidsW out a p).length + S.length]? = some ((p + n : Nat) : Int) := by
      rw [hpo, go3, go4, ← List.append_assoc, List.append_assoc, List.getElem?_append_right (by simp), List.length_append, Nat.sub_self]; exact hd4
    rw [e3]; rfl
  have hcB : isB (cutL l p t) = true := by rw [cutL_nat]; exact isB_window hb hpt htl c3
  have hcl : (cutL l p t).length = t - p := by rw [cutL_nat]; simp; omega
  have hcg : ∀ j, j < t - p → (cutL l p t)[j]? = l[p + j]? := fun j hj => by
    rw [cutL_nat, List.getElem?_take, if_pos hj, List.getElem?_drop]
  have hM : (kidsR (cutL l p t) (-1)).length = (kidsW l p t).length := by
    have := kidsW_shift (l := l) (l' := cutL l p t) (t - p + 1) p 0 (t - p) (by omega) (fun j hj => by simp only [skI,Nat.zero_add]; rw [hcg j hj])
    rw [Nat.zero_add, show p + (t - p) = t by omega] at this
    rw [kidsR_top hcB, hcl, this, List.length_map]
  have hback : swapL out ⟨1, into, p, S.length, cutL l p t, Sty.zero⟩ ((p + n : Nat) : Int) = l := by
    rw [swapL_eq hbo (by simp only; omega) g4 (by simp only; omega)]
    simp only [Int.toNat_natCast,hcl]
    have hgl2 : ∀ d, (grewL out into d p).length = p := fun d => by rw [grewL_len]; simp; omega
    refine List.ext_getElem? fun i => ?_
    by_cases h1 : i < p
    · have hil : i < l.length := by omega
      rw [List.append_assoc, List.getElem?_append_left (by rw [hgl2]; exact h1), grewL, List.getElem?_mapIdx, List.getElem?_take, if_pos h1, hA i h1, List.getElem?_eq_getElem hil, Option.map_some]
      have hcond : ((i : Int) = into ∨ holdsI out i into = true) ↔ ((i : Int) = into ∨ holdsI l i into = true) := by
        by_cases hi : (i : Int) = into
        · simp [hi]
        · simp only [hi,false_or]
          by_cases hh : holdsI l i into = true
          · simp only [hh,iff_true]
            have hsz := hszo i h1 (.inr hh)
            rw [holdsI_iff] at hh ⊢
            simp only [Int.toNat_natCast] at hh ⊢
            rw [hsz]
            have hi0 : 0 ≤ into := by omega
            have hnest := nest hb (x := i) (q := into.toNat) hil (by omega) (by omega) (by omega)
            have hre : (e : Int) = into.toNat + szI l into.toNat := by
              rw [rowOfI, if_neg (by omega)] at r1
              have hb1 := szI_bound hb (show into.toNat < l.length by omega)
              have := (Prod.mk.inj r1).2
              omega
            omega
          · have hsz := hszn i h1 (by rintro (h | h); exact hi h; exact hh h)
            have : holdsI out i into = holdsI l i into := by
              rw [Bool.eq_iff_iff, holdsI_iff, holdsI_iff]
              simp only [Int.toNat_natCast]
              rw [hsz]
              constructor <;> (rintro ⟨h2, h3, h4, h5⟩; omega)
            rw [this]
      congr 1
      by_cases hc : (i : Int) = into ∨ holdsI l i into = true
      · rw [if_pos (hcond.2 hc), if_pos hc]
        have : l[i].size + ((n : Int) - ((t : Int) - p)) + (((t - p : Nat) : Int) - (((p + n : Nat) : Int) - p)) = l[i].size := by omega
        simp only [this]
      · rw [if_neg (fun h => hc (hcond.1 h)), if_neg hc]
    · rw [List.append_assoc, app_right (hgl2 _) (by omega)]
      by_cases h2 : i < t
      · rw [List.getElem?_append_left (by omega), hcg _ (by omega)]
        congr 1; omega
      · rw [app_right hcl (by omega), List.getElem?_drop]
        have := hC (i - t)
        rw [show p + n + (i - p - (t - p)) = p + n + (i - t) by omega, this]
        congr 1; omega
  constructor
  · have hou : outR out ⟨1, into, p, S.length, cutL l p t, Sty.zero⟩ = some l := by
      rw [outR, if_pos rfl, swapR, if_neg]
      · simp only [hgo]; rw [hback]
      · simp only [hgo]
        rintro (h | h | h)
        · cases h
        · rw [hcB] at h; cases h
        · exact h rfl
    rw [doR, if_neg (by simp [hbo]), hou]
    simp [hb]
  · rw [backR, if_neg (by simp)]
    simp only [hgo]
    rw [edEq]
    simp only [hM,hmany]
    refine ⟨trivial, trivial, trivial, trivial, trivial, ?_⟩
    rw [cutL_nat, show p + n - p = n by omega]
    refine List.ext_getElem? fun j => ?_
    rw [List.getElem?_take]
    split
    · rename_i hj
      rw [List.getElem?_drop, hB j hj]
    · rw [List.getElem?_eq_none (by omega)]
theorem edit_back {l out : List Nd} {x : Ed} (hd : doR l x = some out) : doR out (backR l x) = some l ∧ backR out (backR l x) = x := by
  rcases (doR_some hd).2.2.2 with hk | hk
  · exact back_swap hd hk
  · exact back_style hd hk
end Go.Vc
namespace Go.Vc
open Go.Proofs
section
variable {P : Program} {n : Nat} {Q : St → Prop}
end
theorem OutV.src {K σ : Store} {e sz : Nat} {v : V} {rows : List V} (h : OutV K σ e sz v rows) {σ1 : Store} (hs : SubStore σ σ1) : srcRows σ1 sz v = some rows := by
  rcases h with ⟨rfl, rfl⟩ | ⟨id, rfl, ho, hk⟩
  · rfl
  · simp only [srcRows,hs _ _ ho]
    rw [if_pos (by simp)]
    simp
end Go.Vc
namespace Go.Vc
open Go.Proofs
set_option maxRecDepth 100000 in
theorem agg_39 : aggT Tryd.prog 26 = true := by kernel_rfl
def Nd.realL (l : List Nd) : Prop := l.length ≤ 800000000000 ∧ ∀ x ∈ l, x.real
def Ed.real (x : Ed) : Prop := Nd.realL x.sub
theorem realL_lim {l : List Nd} (h : Nd.realL l) : l.length ≤ 1000000000000 ∧ ∀ x ∈ l, x.words.length ≤ 200000000000000 :=
  ⟨by have := h.1; omega, fun x hx => by have := (h.2 x hx).2.1; omega⟩
set_option maxRecDepth 100000 in
theorem shp_edit {n : Nat} {vs : List V} (h : ShpC Tryd.prog (n + 5) 26 vs) : ∃ x : Ed, vs = x.cells ∧ x.real := by
  replace h := shpC_struct Tryd.underlying26 h
  simp only [ShpFs] at h
  obtain ⟨_, _, rfl, h1, _, _, rfl, h2, _, _, rfl, h3, _, _, rfl, h4, _, _, rfl, h5, _, _, rfl, h6, rfl⟩ := h
  obtain ⟨m1, rfl, g1⟩ := shp_int h1
  obtain ⟨m2, rfl, g2⟩ := shp_int h2
  obtain ⟨m3, rfl, g3⟩ := shp_int h3
  obtain ⟨m4, rfl, g4⟩ := shp_int h4
  obtain ⟨l, rfl, g5, g5'⟩ := shp_nodes h5
  obtain ⟨s, rfl, g6⟩ := shp_style h6
  exact ⟨⟨m1, m2, m3, m4, l, s⟩, rfl, g5, g5'⟩
set_option maxRecDepth 100000 in
theorem arg_edit {n : Nat} {vs : List V} (h : ShpC Tryd.prog (n + 5) 26 vs) : ∃ x : Ed, argOf Tryd.prog 26 vs = encE x ∧ x.real := by
  obtain ⟨x, rfl, hx⟩ := shp_edit h
  exact ⟨x, by unfold argOf; rw [agg_39]; rfl, hx⟩
end Go.Vc
namespace Go.Vc
open Go.Proofs
theorem kidsW_next {l : List Nd} {e : Nat} (he : e ≤ l.length) : ∀ (m a : Nat), e - a < m → a ≤ e → rowsB l a e = true → ∀ (n : Nat) (k : Int), (kidsW l a e)[n]? = some k → (kidsW l a e ++ [(e : Int)])[n + 1]? = some (k + szI l k.toNat)
  | 0, _, h, _, _, _, _, _ => by omega
  | m + 1, a, h, hae, hr, n, k, hk => by
    by_cases h0 : a = e
    · subst h0; rw [kidsW_nil (Nat.le_refl _)] at hk; simp at hk
    · have hlt : a < e := by omega
      have hal : a < l.length := by omega
      obtain ⟨y1, y2⟩ := rowsB_ends he hr (Nat.le_refl a) hlt
      obtain ⟨hr2, _⟩ := rowsB_next he hr hlt
      have hse := szI_eq hal
      rw [kidsW_cons hlt hal (by omega), ← hse] at hk ⊢
      cases n with
      | zero =>
        simp only [List.getElem?_cons_zero,Option.some.injEq] at hk
        subst hk
        rw [List.cons_append, List.getElem?_cons_succ, kidsW_head (by omega) he hr2]
        simp only [Int.toNat_natCast,Option.some.injEq]
        omega
      | succ n =>
        rw [List.getElem?_cons_succ] at hk
        rw [List.cons_append, List.getElem?_cons_succ]
        exact kidsW_next he m (a + (szI l a).toNat) (by omega) (by omega) hr2 n k hk
theorem trees_pos {l : List Nd} (hb : isB l = true) : ∀ n, n ≤ (kidsR l (-1)).length → (kidsR l (-1) ++ [(l.length : Int)])[n]? = some (((treesR l).take n).flatten.length : Int)
  | 0, _ => by
    have hrows : rowsB l 0 l.length = true := by simp only [isB,Bool.and_eq_true] at hb; exact hb.2
    rw [kidsR_top hb, kidsW_head (Nat.zero_le _) (Nat.le_refl _) hrows]
    simp
  | n + 1, h => by
    have hrows : rowsB l 0 l.length = true := by simp only [isB,Bool.and_eq_true] at hb; exact hb.2
    have ih := trees_pos hb n (by omega)
    have hn : n < (kidsR l (-1)).length := by omega
    rw [List.getElem?_append_left hn] at ih
    have hx := kidsW_next (Nat.le_refl _) (l.length + 1) 0 (by omega) (Nat.zero_le _) hrows n _ (by rw [← kidsR_top hb]; exact ih)
    rw [← kidsR_top hb] at hx
    rw [hx]
    have hnt : n < (treesR l).length := by rw [treesR, List.length_map]; exact hn
    rw [List.take_succ_eq_append_getElem hnt, List.flatten_append, List.length_append]
    have hk : (kidsR l (-1))[n] = (((treesR l).take n).flatten.length : Int) := by
      rw [List.getElem?_eq_getElem hn] at ih; simpa using ih
    have ht : (treesR l)[n] = cutL l (kidsR l (-1))[n] ((kidsR l (-1))[n] + szI l (kidsR l (-1))[n].toNat) := by simp [treesR]
    obtain ⟨g1, g2, g3, g4⟩ := kids_end hb (List.getElem_mem hn)
    have hl : ((treesR l)[n].length : Int) = szI l (kidsR l (-1))[n].toNat := by
      rw [ht, cutL]; simp; omega
    simp only [List.flatten_cons,List.flatten_nil,List.append_nil,Option.some.injEq]
    rw [← hk, Int.natCast_add, hl, ← hk]
theorem flatten_window {L : List (List Nd)} {i j : Nat} (hij : i ≤ j) (hj : j ≤ L.length) :
    (L.flatten.drop (L.take i).flatten.length).take ((L.take j).flatten.length - (L.take i).flatten.length) = ((L.drop i).take (j - i)).flatten := by
  have e1 : L.flatten = (L.take i).flatten ++ (L.drop i).flatten := by rw [← List.flatten_append, List.take_append_drop]
  have e2 : (L.take j).flatten = (L.take i).flatten ++ ((L.drop i).take (j - i)).flatten := by
    rw [← List.flatten_append]
    congr 1
    conv => lhs; rw [show j = i + (j - i) by omega, List.take_add]
  have e3 : (L.drop i).flatten = ((L.drop i).take (j - i)).flatten ++ ((L.drop i).drop (j - i)).flatten := by rw [← List.flatten_append, List.take_append_drop]
  rw [e1, List.drop_left, e2, List.length_append, Nat.add_sub_cancel_left, e3, List.take_left]
theorem alikeN_eq (eq : Nat → Bool) : ∀ f n k, n ≤ k → k < alikeN eq f n → eq k = true
  | 0, n, k, h, h2 => by simp [alikeN] at h2; omega
  | f + 1, n, k, h, h2 => by
    rw [alikeN] at h2
    split at h2
    · rename_i he
      by_cases e : k = n
      · rw [e]; exact he
      · exact alikeN_eq eq f (n + 1) k (by omega) h2
    · omega
theorem alike_take {X Y : List (List Nd)} : X.take (alikeR tellF X Y) = Y.take (alikeR tellF X Y) := by
  have hle := alikeR_le tellF X Y
  refine List.ext_getElem? fun i => ?_
  rw [List.getElem?_take, List.getElem?_take]
  split
  · rename_i hi
    have := alikeN_eq _ _ _ i (Nat.zero_le _) hi
    rw [decide_eq_true_eq, tellF, tellF] at this
    rw [List.getElem?_eq_getElem (show i < X.length by omega), List.getElem?_eq_getElem (show i < Y.length by omega)] at this ⊢
    simpa using this
  · rfl
end Go.Vc
namespace Go.Vc
theorem ups_top (l : List Nd) (f : Nat) : ups l f (-1) = [] := by cases f <;> simp [ups]
theorem swapL_top {l : List Nd} {x : Ed} {to : Int} (h : x.into = -1) : swapL l x to = l.take x.pos.toNat ++ x.sub ++ l.drop to.toNat := by
  rw [swapL, h, ups_top]; rfl
theorem places_top {l : List Nd} (hb : isB l = true) : placesR l (-1) = kidsR l (-1) ++ [(l.length : Int)] ∧ Srt 0 (placesR l (-1)) := by
  obtain ⟨h1, h2, _⟩ := placesR_eq hb (into := -1) (.inl rfl) (a := 0) (e := l.length) (by simp [rowOfI])
  exact ⟨by rw [h1, kidsR_top hb], h2⟩
theorem places_len {l : List Nd} (hb : isB l = true) : (placesR l (-1)).length = (treesR l).length + 1 := by
  rw [(places_top hb).1, treesR]; simp
theorem places_get {l : List Nd} (hb : isB l = true) {n : Nat} (hn : n ≤ (treesR l).length) : (placesR l (-1))[n]? = some (((treesR l).take n).flatten.length : Int) := by
  rw [(places_top hb).1]
  exact trees_pos hb n (by rw [treesR, List.length_map] at hn; exact hn)
theorem idx_places {l : List Nd} (hb : isB l = true) {n : Nat} {p : Int} (h : (placesR l (-1))[n]? = some p) : idxI p (placesR l (-1)) 0 = n := by
  have hs := (places_top hb).2
  have hn : n < (placesR l (-1)).length := (List.getElem?_eq_some_iff.1 h).1
  have key := idxI_at (a := p) (A := (placesR l (-1)).take n) (R := (placesR l (-1)).drop n) (i := 0) (fun x hx e => by
    obtain ⟨i, hx⟩ := List.mem_iff_getElem?.1 hx
    rw [e] at hx
    rw [List.getElem?_take] at hx
    split at hx
    · have := Srt.inj hs hx h; omega
    · cases hx) (by rw [List.getElem?_drop]; simpa using h)
  rw [List.take_append_drop] at key
  rw [key, List.length_take]
  omega
theorem gone_top {l : List Nd} (hb : isB l = true) {n k : Nat} (hk : n + k ≤ (treesR l).length) :
    goesR l (-1) (((treesR l).take n).flatten.length : Int) k = ((((treesR l).take n).flatten.length : Int), (((treesR l).take (n + k)).flatten.length : Int), true) := by
  have h1 := places_get hb (n := n) (by omega)
  have h2 := places_get hb (n := n + k) hk
  have hl := places_len hb
  rw [goesR, if_neg (by simp), idx_places hb h1, if_neg (by omega)]
  rw [show ((n : Int) + k).toNat = n + k by omega, h2]
  rfl
theorem isB_between {l : List Nd} (hb : isB l = true) {p t : Nat} (hpt : p ≤ t) (hp : (p : Int) ∈ placesR l (-1)) (ht : (t : Int) ∈ placesR l (-1)) : isB (cutL l p t) = true := by
  have hrows : rowsB l 0 l.length = true := by simp only [isB,Bool.and_eq_true] at hb; exact hb.2
  rw [(places_top hb).1, kidsR_top hb] at hp ht
  obtain ⟨_, hpl, c1, c2⟩ := rowsB_cut (Nat.le_refl _) (l.length + 1) 0 (by omega) (by omega) hrows p hp
  obtain ⟨_, htl, _, _⟩ := rowsB_cut (Nat.le_refl _) (l.length + 1) 0 (by omega) (by omega) hrows t ht
  have go1 := kidsW_go (p + 1) 0 p l.length (by omega) (by omega) hpl hpl c1
  obtain ⟨srt1, lt1, _⟩ := kidsW_srt hpl (p + 1) 0 (by omega) (by omega) c1
  have ht2 : (t : Int) ∈ kidsW l p l.length ++ [(l.length : Int)] := by
    rw [go1, List.append_assoc, List.mem_append] at ht
    rcases ht with h | h
    · have := lt1 _ h; omega
    · exact h
  obtain ⟨_, _, c3, c4⟩ := rowsB_cut (Nat.le_refl _) (l.length + 1) p (by omega) hpl c2 t ht2
  rw [cutL_nat]; exact isB_window hb hpt htl c3
theorem flatnT {α : Type} (L : List (List α)) (n : Nat) : L.flatten.take (L.take n).flatten.length = (L.take n).flatten := by
  conv => lhs; arg 2; rw [← List.take_append_drop n L, List.flatten_append]
  rw [List.take_left]
theorem flatnD {α : Type} (L : List (List α)) (n : Nat) : L.flatten.drop (L.take n).flatten.length = (L.drop n).flatten := by
  conv => lhs; arg 2; rw [← List.take_append_drop n L, List.flatten_append]
  rw [List.drop_left]
theorem flat_mono {L : List (List Nd)} {i j : Nat} (h : i ≤ j) : (L.take i).flatten.length ≤ (L.take j).flatten.length := by
  have := flatten_take_le (L := L.take j) i
  rw [List.take_take, Nat.min_eq_left h] at this
  exact this
theorem isB_trees {l : List Nd} (hb : isB l = true) {n k : Nat} (h : n + k ≤ (treesR l).length) : isB (((treesR l).drop n).take k).flatten = true := by
  have h1 := places_get hb (n := n) (by omega)
  have h2 := places_get hb (n := n + k) h
  have h3 := isB_between hb (flat_mono (Nat.le_add_right n k)) (List.mem_of_getElem? h1) (List.mem_of_getElem? h2)
  rw [cutL_nat] at h3
  have h4 := flatten_window (L := treesR l) (i := n) (j := n + k) (by omega) h
  rw [treesR_flat hb, show n + k - n = k by omega] at h4
  rw [← h4]; exact h3
theorem alikeR_comm (tell : List (List Nd) → Nat → List Nd) (a b : List (List Nd)) : alikeR tell a b = alikeR tell b a := by
  have : (fun n => decide (tell a n = tell b n)) = fun n => decide (tell b n = tell a n) := by
    funext n; exact decide_eq_decide.2 eq_comm
  rw [alikeR, alikeR, Nat.min_comm, this]
theorem alikeN_true : ∀ f n, alikeN (fun _ => true) f n = n + f
  | 0, n => rfl
  | f + 1, n => by rw [alikeN, if_pos rfl, alikeN_true f]; omega
theorem alikeR_self (tell : List (List Nd) → Nat → List Nd) (a : List (List Nd)) : alikeR tell a a = a.length := by
  have : (fun n => decide (tell a n = tell a n)) = fun _ => true := by funext n; simp
  rw [alikeR, this, alikeN_true, Nat.min_self]; omega
theorem alike_last {X Y : List (List Nd)} : X.drop (X.length - alikeR tellL X Y) = Y.drop (Y.length - alikeR tellL X Y) := by
  have hle := alikeR_le tellL X Y
  refine List.ext_getElem? fun i => ?_
  rw [List.getElem?_drop, List.getElem?_drop]
  by_cases hi : i < alikeR tellL X Y
  · have h := alikeN_eq (fun n => decide (tellL X n = tellL Y n)) (min X.length Y.length) 0 (alikeR tellL X Y - 1 - i) (Nat.zero_le _) (by show _ < alikeR tellL X Y; omega)
    replace h : tellL X (alikeR tellL X Y - 1 - i) = tellL Y (alikeR tellL X Y - 1 - i) := of_decide_eq_true h
    generalize alikeR tellL X Y = M at *
    unfold tellL at h
    rw [show X.length - 1 - (M - 1 - i) = X.length - M + i by omega, show Y.length - 1 - (M - 1 - i) = Y.length - M + i by omega] at h
    rw [List.getElem?_eq_getElem (show X.length - M + i < X.length by omega), List.getElem?_eq_getElem (show Y.length - M + i < Y.length by omega)] at h ⊢
    simpa using h
  · rw [List.getElem?_eq_none (by omega), List.getElem?_eq_none (by omega)]
theorem between_facts (a b : List Nd) : ∃ N M : Nat, N + M ≤ (treesR a).length ∧ N + M ≤ (treesR b).length ∧ N = alikeR tellF (treesR a) (treesR b) ∧
    M = alikeR tellL ((treesR a).drop N) ((treesR b).drop N) ∧ (treesR a).take N = (treesR b).take N ∧ (treesR a).drop ((treesR a).length - M) = (treesR b).drop ((treesR b).length - M) ∧
    betweenC a b = ⟨1, -1, ((treesR a).take N).flatten.length, (((treesR a).length - N - M : Nat) : Int), (((treesR b).drop N).take ((treesR b).length - N - M)).flatten, Sty.zero⟩ := by
  have h1 := alikeR_le tellF (treesR a) (treesR b)
  have h2 := alikeR_le tellL ((treesR a).drop (alikeR tellF (treesR a) (treesR b))) ((treesR b).drop (alikeR tellF (treesR a) (treesR b)))
  have h3 := alike_last (X := (treesR a).drop (alikeR tellF (treesR a) (treesR b))) (Y := (treesR b).drop (alikeR tellF (treesR a) (treesR b)))
  have h4 := alike_take (X := treesR a) (Y := treesR b)
  unfold betweenC
  simp only
  generalize hN : alikeR tellF (treesR a) (treesR b) = N at *
  generalize hM : alikeR tellL ((treesR a).drop N) ((treesR b).drop N) = M at *
  simp only [List.length_drop] at h2 h3 ⊢
  refine ⟨N, M, by omega, by omega, rfl, hM.symm, h4, ?_, ?_⟩
  · rw [List.drop_drop, List.drop_drop, show N + ((treesR a).length - N - M) = (treesR a).length - M by omega, show N + ((treesR b).length - N - M) = (treesR b).length - M by omega] at h3
    exact h3
  · congr 1; omega
theorem between_do {a b : List Nd} (ha : isB a = true) (hb : isB b = true) : doR a (betweenC a b) = some b := by
  obtain ⟨N, M, h1, h2, -, -, h5, h6, he⟩ := between_facts a b
  have hg := gone_top ha (n := N) (k := (treesR a).length - N - M) (by omega)
  rw [show N + ((treesR a).length - N - M) = (treesR a).length - M by omega] at hg
  have fa := treesR_flat ha
  have fb := treesR_flat hb
  have hs := isB_trees hb (n := N) (k := (treesR b).length - N - M) (by omega)
  have hsw : swapR a (betweenC a b) = some b := by
    rw [swapR, he]
    simp only [hg]
    rw [if_neg (by simp [hs]), swapL_top rfl]
    simp only [Int.toNat_natCast,Option.some.injEq]
    have e1 := flatnT (treesR a) N
    have e2 := flatnD (treesR a) ((treesR a).length - M)
    rw [fa] at e1 e2
    rw [e1, e2, h5, h6]
    conv => rhs; rw [← fb]
    rw [← List.flatten_append, ← List.flatten_append]
    congr 1
    conv => rhs; rw [← List.take_append_drop N (treesR b)]
    rw [List.append_assoc]
    congr 1
    conv => rhs; rw [← List.take_append_drop ((treesR b).length - N - M) ((treesR b).drop N)]
    rw [List.drop_drop, show N + ((treesR b).length - N - M) = (treesR b).length - M by omega]
  have hk : (betweenC a b).kind = 1 := by rw [he]
  rw [doR, if_neg (by simp [ha, hk]), outR, if_pos hk, hsw]
  simp [hb]
theorem between_self (a : List Nd) : (betweenC a a).many = 0 ∧ (betweenC a a).sub = [] := by
  obtain ⟨N, M, h1, h2, h3, h4, -, -, he⟩ := between_facts a a
  rw [alikeR_self] at h3
  have : M = 0 := by omega
  rw [he]
  constructor
  · simp only; omega
  · simp only
    rw [show (treesR a).length - N - M = 0 by omega]; rfl
theorem back_between {a b : List Nd} (ha : isB a = true) : (backR a (betweenC a b)).sub = (betweenC b a).sub ∧ (betweenC b a).pos = (betweenC a b).pos := by
  obtain ⟨N, M, h1, h2, h3, h4, h5, h6, he⟩ := between_facts a b
  obtain ⟨N', M', g1, g2, g3, g4, g5, g6, ge⟩ := between_facts b a
  have e1 : N' = N := by rw [g3, alikeR_comm, ← h3]
  subst e1
  have e2 : M' = M := by rw [g4, alikeR_comm, ← h4]
  subst e2
  have hg := gone_top ha (n := N') (k := (treesR a).length - N' - M') (by omega)
  rw [show N' + ((treesR a).length - N' - M') = (treesR a).length - M' by omega] at hg
  have hw := flatten_window (L := treesR a) (i := N') (j := (treesR a).length - M') (by omega) (by omega)
  rw [treesR_flat ha] at hw
  constructor
  · rw [ge, he, backR, if_neg (by simp)]
    simp only [hg]
    rw [cutL_nat, hw, show (treesR a).length - M' - N' = (treesR a).length - N' - M' by omega]
  · rw [ge, he, h5]
theorem between_back {a b : List Nd} (ha : isB a = true) (hb : isB b = true) : betweenC b a = backR a (betweenC a b) := by
  have d2 := between_do hb ha
  have h1 := (edit_back d2).2
  obtain ⟨s1, p1⟩ := back_between (b := b) ha
  obtain ⟨s2, p2⟩ := back_between (b := a) hb
  have shape : ∀ a b, (betweenC a b).kind = 1 ∧ (betweenC a b).into = -1 ∧ (betweenC a b).st = Sty.zero := fun a b => ⟨rfl, rfl, rfl⟩
  have back : ∀ (l : List Nd) (x : Ed), x.kind = 1 → (backR l x).kind = 1 ∧ (backR l x).into = x.into ∧ (backR l x).pos = x.pos ∧ (backR l x).many = (kidsR x.sub (-1)).length ∧ (backR l x).st = Sty.zero := fun l x h => by
    rw [backR, if_neg (by omega)]; exact ⟨rfl, rfl, rfl, rfl, rfl⟩
  have hm : (betweenC b a).many = (kidsR (betweenC a b).sub (-1)).length := by
    have q1 := back b (betweenC b a) rfl
    have q2 := back a (backR b (betweenC b a)) q1.1
    rw [h1] at q2
    rw [q2.2.2.2.1, s2]
  obtain ⟨q1, q2, q3, q4, q5⟩ := back a (betweenC a b) rfl
  have edx : ∀ x y : Ed, x.kind = y.kind → x.into = y.into → x.pos = y.pos → x.many = y.many → x.sub = y.sub → x.st = y.st → x = y := fun x y => by
    cases x; cases y; simp only; rintro rfl rfl rfl rfl rfl rfl; rfl
  exact edx _ _ (by rw [q1]; rfl) (by rw [q2]; rfl) (by rw [q3, p1]) (by rw [q4, hm]) (by rw [s1]) (by rw [q5]; rfl)
theorem swap_top {a out : List Nd} {x : Ed} (h : doR a x = some out) (hk : x.kind = 1) (hi : x.into = -1) :
    ∃ p t : Nat, x.pos = p ∧ p ≤ t ∧ t ≤ a.length ∧ out = a.take p ++ x.sub ++ a.drop t ∧ isB (a.take p) = true ∧ isB x.sub = true ∧ isB (a.drop t) = true ∧ isB out = true := by
  obtain ⟨hb, hbo, ho, _⟩ := doR_some h
  rw [outR, if_pos hk] at ho
  obtain ⟨to, hg, hbs, hz, hout⟩ := swapR_some ho
  obtain ⟨_, g1, g2, g3, g4, g5, g6, kk, gk1, gk2⟩ := goneR_facts hb hg
  obtain ⟨p, hp⟩ : ∃ p : Nat, x.pos = p := ⟨x.pos.toNat, by omega⟩
  obtain ⟨t, rfl⟩ : ∃ t : Nat, to = t := ⟨to.toNat, by omega⟩
  rw [hi] at gk1 gk2
  rw [hp] at gk1
  have z0 : ((0 : Nat) : Int) ∈ placesR a (-1) := List.mem_of_getElem? (i := 0) (by rw [places_get hb (Nat.zero_le _)]; rfl)
  have z1 : ((a.length : Nat) : Int) ∈ placesR a (-1) := by rw [(places_top hb).1]; simp
  have b1 := isB_between hb (Nat.zero_le p) z0 (List.mem_of_getElem? gk1)
  have b2 := isB_between hb (show t ≤ a.length by omega) (List.mem_of_getElem? gk2) z1
  rw [cutL_nat] at b1 b2
  rw [swapL_top hi, hp] at hout
  refine ⟨p, t, hp, by omega, by omega, by simpa using hout, by simpa using b1, hbs, ?_, hbo⟩
  rw [List.take_of_length_le (by simp)] at b2
  exact b2
end Go.Vc
