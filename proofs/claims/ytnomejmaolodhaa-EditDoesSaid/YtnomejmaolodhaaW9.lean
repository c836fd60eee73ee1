/- Part 9 of the library of this proof. -/
import Derived.Test.YtnomejmaolodhaaW8
set_option linter.all false
namespace Go.Vc
open Go.Proofs
section
variable {P : Program} {n : Nat} {st : St} {Q : St → Prop} {k : List It}
theorem Go.pcallW {i : VIns} {l : List VIns} {fx : VX} {xs : List VX} {f : FuncId} {caps : List V} {v : V} (hw : wantV st.s i.g = some true) (ho : i.op = .call fx xs)
    (hf : fx.ev st.s = .fn f caps) (hc : ∀ σ1, SubStore st.σ σ1 → Contract P f (xs.map (·.ev st.s) ++ caps) σ1 fun r σ' => r = v ∧ σ' = σ1) (h : Go P n (.d l k) ⟨putO st.s i.dst v, st.σ⟩ Q) : Go P n (.d (i :: l) k) st Q := by
  refine T_true hw ?_
  rw [ho]
  exact ⟨f, caps, v, hf, hc, h⟩
end
def ClrW (K σ : Store) (l : List Nd) (rows : List V) : Prop := ∀ (i : Nat) (x : Nd), l[i]? = some x → ∃ w, rows[i]? = some (ndW x w) ∧ (w = .nils ∨ ∃ id len ws, w = .own id 0 len ∧ σ id = some ⟨3, 1, ws⟩ ∧ len ≤ ws.length ∧ K id = none)
theorem RowsW.clr {K σ : Store} {l : List Nd} {rows : List V} (h : RowsW K σ l rows) : ClrW K σ l rows := fun i x hx => by
  obtain ⟨w, h1, h2⟩ := h.get i hx
  refine ⟨w, h1, ?_⟩
  rcases h2 with ⟨h2, _⟩ | ⟨id, h2, h3, h4⟩
  · exact .inl h2
  · exact .inr ⟨id, _, _, h2, h3, Nat.le_refl _, h4⟩
theorem ClrW.upd {K σ : Store} {l : List Nd} {rows : List V} (h : ClrW K σ l rows) {id : Nat} {ws ws' : List V} (ho : σ id = some ⟨3, 1, ws⟩) (hl : ws'.length = ws.length) : ClrW K (Vc.upd σ id ⟨3, 1, ws'⟩) l rows := fun i x hx => by
  obtain ⟨w, h1, h2⟩ := h i x hx
  refine ⟨w, h1, h2.imp (fun h => h) fun ⟨j, len, vs, g1, g2, g3, g4⟩ => ?_⟩
  by_cases hj : j = id
  · subst hj
    rw [ho] at g2
    simp only [Option.some.injEq,Ob.mk.injEq,true_and] at g2
    subst g2
    exact ⟨j, len, ws', g1, upd_same, by omega, g4⟩
  · exact ⟨j, len, vs, g1, by rw [upd_ne hj]; exact g2, g3, g4⟩
set_option maxRecDepth 100000 in
theorem editDoes_c (l : List Nd) (x : Ed) (hl : l.length ≤ 1000000000000 ∧ ∀ z ∈ l, z.words.length ≤ 200000000000000) (hx : x.sub.length ≤ 1000000000000 ∧ ∀ z ∈ x.sub, z.words.length ≤ 200000000000000) :
    PFun Try.prog 3 [encNs l, encE x] (.bool true) := fun σ => by
  refine Contract.of_runs Try.func3 e3 k3 (by simp [c3]) ?_
  have hs := SubStore.refl σ
  refine Runs.mix 15 ?_
  (refine Runs.of_step Orc.nothing 300 ?_; simp -implicitDefEqProofs only [BB,seval,← decide_not,okind,vpre,vpure,intBin,intPre,strBin,strPre,popTo,argSlots,fldV,fldAV,subCells,idxVV,idxAAV,idxSV,sliceV,sliceSV,boundV,szIs,storeOp,storeS,setRowV,eff,extV,buildV,splice,eqSV,fitsL,eqCells,eqCell,minmaxV,capV,binBV,nilCheckV,bytesV,V.cells,V.stays,Orc.nothing,c3,encE,Ed.cells,encNs_cells,encNs_stays])
  refine effR_new fun i3 σ3 s3 a3 f3 => ?_
  have z3 := hs.none f3
  replace hs := hs.trans s3
  simp -implicitDefEqProofs only [BB,seval,← decide_not,okind,vpre,vpure,intBin,intPre,strBin,strPre,popTo,argSlots,fldV,fldAV,subCells,idxVV,idxAAV,idxSV,sliceV,sliceSV,boundV,szIs,storeOp,storeS,setRowV,eff,extV,buildV,splice,eqSV,fitsL,eqCells,eqCell,minmaxV,capV,binBV,nilCheckV,bytesV,V.cells,V.stays,a3,encNs_cells,encNs_stays]
  refine Runs.pcall rfl rfl rfl (vast_c l hl.1 hl.2 _) ?_
  cases va : vastR l
  case true =>
    (refine Runs.of_step Orc.nothing 300 ?_; simp -implicitDefEqProofs only [BB,seval,← decide_not,okind,vpre,vpure,intBin,intPre,strBin,strPre,popTo,argSlots,fldV,fldAV,subCells,idxVV,idxAAV,idxSV,sliceV,sliceSV,boundV,szIs,storeOp,storeS,setRowV,eff,extV,buildV,splice,eqSV,fitsL,eqCells,eqCell,minmaxV,capV,binBV,nilCheckV,bytesV,V.cells,V.stays,Orc.nothing])
    refine Runs.pcall rfl rfl rfl (awake36_c _) ?_
    (refine Runs.of_step Orc.nothing 300 ?_; simp -implicitDefEqProofs only [BB,seval,← decide_not,okind,vpre,vpure,intBin,intPre,strBin,strPre,popTo,argSlots,fldV,fldAV,subCells,idxVV,idxAAV,idxSV,sliceV,sliceSV,boundV,szIs,storeOp,storeS,setRowV,eff,extV,buildV,splice,eqSV,fitsL,eqCells,eqCell,minmaxV,capV,binBV,nilCheckV,bytesV,V.cells,V.stays,Orc.nothing])
    exact RetV.pure hs rfl
  (refine Runs.of_step Orc.nothing 300 ?_; simp -implicitDefEqProofs only [BB,seval,← decide_not,okind,vpre,vpure,intBin,intPre,strBin,strPre,popTo,argSlots,fldV,fldAV,subCells,idxVV,idxAAV,idxSV,sliceV,sliceSV,boundV,szIs,storeOp,storeS,setRowV,eff,extV,buildV,splice,eqSV,fitsL,eqCells,eqCell,minmaxV,capV,binBV,nilCheckV,bytesV,V.cells,V.stays,Orc.nothing,a3,encNs_cells,encNs_stays])
  refine Runs.pcall rfl rfl rfl (vast_c x.sub hx.1 hx.2 _) ?_
  cases vx : vastR x.sub
  case true =>
    (refine Runs.of_step Orc.nothing 300 ?_; simp -implicitDefEqProofs only [BB,seval,← decide_not,okind,vpre,vpure,intBin,intPre,strBin,strPre,popTo,argSlots,fldV,fldAV,subCells,idxVV,idxAAV,idxSV,sliceV,sliceSV,boundV,szIs,storeOp,storeS,setRowV,eff,extV,buildV,splice,eqSV,fitsL,eqCells,eqCell,minmaxV,capV,binBV,nilCheckV,bytesV,V.cells,V.stays,Orc.nothing])
    refine Runs.pcall rfl rfl rfl (awake36_c _) ?_
    (refine Runs.of_step Orc.nothing 300 ?_; simp -implicitDefEqProofs only [BB,seval,← decide_not,okind,vpre,vpure,intBin,intPre,strBin,strPre,popTo,argSlots,fldV,fldAV,subCells,idxVV,idxAAV,idxSV,sliceV,sliceSV,boundV,szIs,storeOp,storeS,setRowV,eff,extV,buildV,splice,eqSV,fitsL,eqCells,eqCell,minmaxV,capV,binBV,nilCheckV,bytesV,V.cells,V.stays,Orc.nothing])
    exact RetV.pure hs rfl
  have lh := (vastR_len va).hlf (by omega)
  have lx := (vastR_len vx).hlf (by omega)
  (refine Runs.of_step Orc.nothing 300 ?_; simp -implicitDefEqProofs only [BB,seval,← decide_not,okind,vpre,vpure,intBin,intPre,strBin,strPre,popTo,argSlots,fldV,fldAV,subCells,idxVV,idxAAV,idxSV,sliceV,sliceSV,boundV,szIs,storeOp,storeS,setRowV,eff,extV,buildV,splice,eqSV,fitsL,eqCells,eqCell,minmaxV,capV,binBV,nilCheckV,bytesV,V.cells,V.stays,Orc.nothing])
  refine Go.pcallE rfl rfl rfl (own_c l lh.sml) ?_
  (refine Go.of_step Orc.nothing 300 _ _ ?_; simp -implicitDefEqProofs only [BB,seval,← decide_not,okind,vpre,vpure,intBin,intPre,strBin,strPre,popTo,argSlots,fldV,fldAV,subCells,idxVV,idxAAV,idxSV,sliceV,sliceSV,boundV,szIs,storeOp,storeS,setRowV,eff,extV,buildV,splice,eqSV,fitsL,eqCells,eqCell,minmaxV,capV,binBV,nilCheckV,bytesV,V.cells,V.stays,Orc.nothing,a3,encNs_cells,encNs_stays])
  refine Go.pcallE rfl rfl rfl (own_c x.sub lx.sml) ?_
  (refine Go.of_step Orc.nothing 300 _ _ ?_; simp -implicitDefEqProofs only [BB,seval,← decide_not,okind,vpre,vpure,intBin,intPre,strBin,strPre,popTo,argSlots,fldV,fldAV,subCells,idxVV,idxAAV,idxSV,sliceV,sliceSV,boundV,szIs,storeOp,storeS,setRowV,eff,extV,buildV,splice,eqSV,fitsL,eqCells,eqCell,minmaxV,capV,binBV,nilCheckV,bytesV,V.cells,V.stays,Orc.nothing,a3,encNs_cells,encNs_stays])
  refine effR_new fun i7 σ7 s7 a7 f7 => ?_
  have n37 := ne_new a3 f7
  replace a3 := s7 _ _ a3
  have z7 := hs.none f7
  replace hs := hs.trans s7
  simp -implicitDefEqProofs only [BB,seval,← decide_not,okind,vpre,vpure,intBin,intPre,strBin,strPre,popTo,argSlots,fldV,fldAV,subCells,idxVV,idxAAV,idxSV,sliceV,sliceSV,boundV,szIs,storeOp,storeS,setRowV,eff,extV,buildV,splice,eqSV,fitsL,eqCells,eqCell,minmaxV,capV,binBV,nilCheckV,bytesV,a7,a3,V.cells_agg,V.cells_int,V.cells_nils,V.cells_own,V.cells_sl,V.cells_str,V.cells_bool,V.cells_fn,V.cells_ptr,V.cells_rp,V.stays_agg,V.stays_int,V.stays_nils,V.stays_own,V.stays_sl,V.stays_str,V.stays_bool,V.stays_fn,V.stays_ptr,V.stays_rp,encNs_cells,encNs_stays]
  generalize hq7 : upd _ i7 _ = τ7
  replace a7 := (congrFun hq7 i7).symm.trans upd_same
  replace a3 := ((congrFun hq7 i3).symm.trans (upd_ne n37)).trans a3
  replace hs := Eq.subst (motive := SubStore _) hq7 (hs.updK z7)
  clear hq7
  have hd := ref_do l x
  have hrd := rdo_c l x lh lx
  have hbk := back_c l x lh lx
  have hbz : doR l x = none → backC l x = Ed.zero := fun h => by rw [backC, h]; rfl
  have hdl := fun out (h : doR l x = some out) => (doR_some h)
  have hbr := fun out (h : doR l x = some out) => rback_c l out x lh lx h
  have hbc := fun out (h : doR l x = some out) => (show backC l x = backR l x by rw [backC, h]; rfl)
  have q1 := same5_c l l lh.sml.fine lh.sml.fine
  have q2 := same5_c x.sub x.sub lx.sml.fine lx.sml.fine
  simp only [decide_true] at q1 q2
  refine Runs.call rfl rfl rfl (do_w l x lh lx _) ?_
  rintro r σ8 ⟨s8, v, rfl, hw⟩
  simp only at s8 hw
  have b7 := s8 _ _ a7
  have b3 := s8 _ _ a3
  have hs8 := hs.trans s8
  generalize hg : doR l x = o at *
  have hvc : v.cells = [v] := by
    obtain ⟨_, ho, _⟩ := hw
    rcases ho with ⟨h, _⟩ | ⟨id, h, _⟩ <;> rw [h] <;> rfl
  (refine Runs.of_step Orc.nothing 300 ?_; simp -implicitDefEqProofs only [BB,seval,← decide_not,okind,vpre,vpure,intBin,intPre,strBin,strPre,popTo,argSlots,fldV,fldAV,subCells,idxVV,idxAAV,idxSV,sliceV,sliceSV,boundV,szIs,storeOp,storeS,setRowV,eff,extV,buildV,splice,eqSV,fitsL,eqCells,eqCell,minmaxV,capV,binBV,nilCheckV,bytesV,Orc.nothing,b7,b3,V.cells_agg,V.cells_int,V.cells_nils,V.cells_own,V.cells_sl,V.cells_str,V.cells_bool,V.cells_fn,V.cells_ptr,V.cells_rp,V.stays_agg,V.stays_int,V.stays_nils,V.stays_own,V.stays_sl,V.stays_str,V.stays_bool,V.stays_fn,V.stays_ptr,V.stays_rp,encNs_cells,encNs_stays])
  refine Runs.pcall rfl rfl rfl (hbk _) ?_
  obtain ⟨zs, hzs⟩ : ∃ v, v = encE (backC l x) := ⟨_, rfl⟩
  have hzc : zs.cells.length = 17 := by rw [hzs]; rfl
  have hzst : zs.stays = true := by rw [hzs]; rfl
  have hzcl : V.agg zs.cells = zs := by rw [hzs]; rfl
  rw [← hzs]
  (refine Runs.of_step Orc.nothing 300 ?_; simp -implicitDefEqProofs only [BB,seval,← decide_not,okind,vpre,vpure,intBin,intPre,strBin,strPre,popTo,argSlots,fldV,fldAV,subCells,idxVV,idxAAV,idxSV,sliceV,sliceSV,boundV,szIs,storeOp,storeS,setRowV,eff,extV,buildV,splice,eqSV,fitsL,eqCells,eqCell,minmaxV,capV,binBV,nilCheckV,bytesV,Orc.nothing,V.cells_agg,V.cells_int,V.cells_nils,V.cells_own,V.cells_sl,V.cells_str,V.cells_bool,V.cells_fn,V.cells_ptr,V.cells_rp,V.stays_agg,V.stays_int,V.stays_nils,V.stays_own,V.stays_sl,V.stays_str,V.stays_bool,V.stays_fn,V.stays_ptr,V.stays_rp,hzc,hzst,hzcl])
  refine effR_new fun i10 σ10 s10 a10 f10 => ?_
  have c3 := s10 _ _ b3
  have n310 := ne_new b3 f10
  simp -implicitDefEqProofs only [BB,seval,← decide_not,okind,vpre,vpure,intBin,intPre,strBin,strPre,popTo,argSlots,fldV,fldAV,subCells,idxVV,idxAAV,idxSV,sliceV,sliceSV,boundV,szIs,storeOp,storeS,setRowV,eff,extV,buildV,splice,eqSV,fitsL,eqCells,eqCell,minmaxV,capV,binBV,nilCheckV,bytesV,a10,c3,upd_ne n310,V.cells_agg,V.cells_int,V.cells_nils,V.cells_own,V.cells_sl,V.cells_str,V.cells_bool,V.cells_fn,V.cells_ptr,V.cells_rp,V.stays_agg,V.stays_int,V.stays_nils,V.stays_own,V.stays_sl,V.stays_str,V.stays_bool,V.stays_fn,V.stays_ptr,V.stays_rp,hzc,hzst,hzcl,encNs_cells,encNs_stays]
  have s11 : SubStore σ8 (upd σ10 i10 ⟨26, 17, [zs]⟩) := s10.updK f10
  have d3 : upd σ10 i10 ⟨26, 17, [zs]⟩ i3 = _ := (upd_ne n310).trans c3
  have d10 : upd σ10 i10 ⟨26, 17, [zs]⟩ i10 = _ := upd_same
  generalize upd σ10 i10 ⟨26, 17, [zs]⟩ = τ at *
  rcases hR : refDoR l x with ⟨w, b⟩
  rw [hR] at hrd hd
  simp only at hrd hd
  refine Runs.pcall rfl rfl rfl (hrd _) ?_
  (refine Runs.of_step Orc.nothing 300 ?_; simp -implicitDefEqProofs only [BB,seval,← decide_not,okind,vpre,vpure,intBin,intPre,strBin,strPre,popTo,argSlots,fldV,fldAV,subCells,idxVV,idxAAV,idxSV,sliceV,sliceSV,boundV,szIs,storeOp,storeS,setRowV,eff,extV,buildV,splice,eqSV,fitsL,eqCells,eqCell,minmaxV,capV,binBV,nilCheckV,bytesV,Orc.nothing,d3,V.cells_agg,V.cells_int,V.cells_nils,V.cells_own,V.cells_sl,V.cells_str,V.cells_bool,V.cells_fn,V.cells_ptr,V.cells_rp,V.stays_agg,V.stays_int,V.stays_nils,V.stays_own,V.stays_sl,V.stays_str,V.stays_bool,V.stays_fn,V.stays_ptr,V.stays_rp,encNs_cells,encNs_stays])
  refine Runs.pcall rfl rfl rfl (q1 _) ?_
  (refine Runs.of_step Orc.nothing 300 ?_; simp -implicitDefEqProofs only [BB,seval,← decide_not,okind,vpre,vpure,intBin,intPre,strBin,strPre,popTo,argSlots,fldV,fldAV,subCells,idxVV,idxAAV,idxSV,sliceV,sliceSV,boundV,szIs,storeOp,storeS,setRowV,eff,extV,buildV,splice,eqSV,fitsL,eqCells,eqCell,minmaxV,capV,binBV,nilCheckV,bytesV,Orc.nothing,d3,V.cells_agg,V.cells_int,V.cells_nils,V.cells_own,V.cells_sl,V.cells_str,V.cells_bool,V.cells_fn,V.cells_ptr,V.cells_rp,V.stays_agg,V.stays_int,V.stays_nils,V.stays_own,V.stays_sl,V.stays_str,V.stays_bool,V.stays_fn,V.stays_ptr,V.stays_rp,encNs_cells,encNs_stays])
  refine Runs.pcall rfl rfl rfl (q2 _) ?_
  have hsτ := hs8.trans s11
  cases b
  · obtain rfl : o = none := by simpa using hd
    have hv0 : lenV false v = some (.int .i64 0) := by
      obtain ⟨rows, ho, hr⟩ := hw
      have hr0 : rows = [] := List.length_eq_zero_iff.1 hr.len
      subst hr0
      exact ho.len
    rw [hbz rfl] at hzs
    have zeroE : PFun Try.prog 11 [zs, .agg [.int .i64 0, .int .i64 0, .int .i64 0, .int .i64 0, .nils, .int .i64 0, .int .i64 0, .int .i64 0, .int .i64 0, .int .i64 0, .int .i64 0, .int .i64 0, .int .i64 0, .int .i64 0, .int .i64 0, .int .i64 0, .int .i64 0]] (.bool true) := fun σ => by
      have h := sameE_c Ed.zero Ed.zero ⟨by simp [Ed.zero], by simp [Ed.zero]⟩ ⟨by simp [Ed.zero], by simp [Ed.zero]⟩
      simp only [decide_true] at h
      rw [hzs]
      refine PFun.borrow ?_ h rfl
      simp only [WkL]
      exact ⟨Wk.refl (nost_sub σ) _, wk_edN (nost_sub σ) 0 0 0 0 Sty.zero, trivial⟩
    (refine Runs.of_step Orc.nothing 300 ?_; simp -implicitDefEqProofs only [BB,seval,← decide_not,okind,vpre,vpure,intBin,intPre,strBin,strPre,popTo,argSlots,fldV,fldAV,subCells,idxVV,idxAAV,idxSV,sliceV,sliceSV,boundV,szIs,storeOp,storeS,setRowV,eff,extV,buildV,splice,eqSV,fitsL,eqCells,eqCell,minmaxV,capV,binBV,nilCheckV,bytesV,Orc.nothing,hv0,errV,Option.isSome_none,Bool.false_eq_true,d10,V.cells_agg,V.cells_int,V.cells_nils,V.cells_own,V.cells_sl,V.cells_str,V.cells_bool,V.cells_fn,V.cells_ptr,V.cells_rp,V.stays_agg,V.stays_int,V.stays_nils,V.stays_own,V.stays_sl,V.stays_str,V.stays_bool,V.stays_fn,V.stays_ptr,V.stays_rp,hzc,hzcl,hzst])
    refine Runs.pcall rfl rfl rfl (zeroE _) ?_
    (refine Runs.of_step Orc.nothing 300 ?_; simp -implicitDefEqProofs only [BB,seval,← decide_not,okind,vpre,vpure,intBin,intPre,strBin,strPre,popTo,argSlots,fldV,fldAV,subCells,idxVV,idxAAV,idxSV,sliceV,sliceSV,boundV,szIs,storeOp,storeS,setRowV,eff,extV,buildV,splice,eqSV,fitsL,eqCells,eqCell,minmaxV,capV,binBV,nilCheckV,bytesV,V.cells,V.stays,Orc.nothing])
    refine Runs.pcall rfl rfl rfl (awake36_c _) ?_
    (refine Runs.of_step Orc.nothing 300 ?_; simp -implicitDefEqProofs only [BB,seval,← decide_not,okind,vpre,vpure,intBin,intPre,strBin,strPre,popTo,argSlots,fldV,fldAV,subCells,idxVV,idxAAV,idxSV,sliceV,sliceSV,boundV,szIs,storeOp,storeS,setRowV,eff,extV,buildV,splice,eqSV,fitsL,eqCells,eqCell,minmaxV,capV,binBV,nilCheckV,bytesV,V.cells,V.stays,Orc.nothing])
    exact RetV.pure hsτ rfl
  · obtain rfl : o = some w := by simpa using hd
    have hw' : OutW τ7 σ8 v w := hw
    obtain ⟨hbl, hbw, hou, _⟩ := hdl w rfl
    have hsw := outR_sml lh hbl lx hou
    have hwl := hsw.1
    have qS := same5_c w w hsw.fine hsw.fine
    have hbw2 := hbr w rfl
    rw [hbc w rfl] at hzs
    rw [← hzs] at hbw2
    have hfb := ((backR_len (x := x) (vastR_len va)).hlf (by omega)).sml.fine
    have qE := sameE8_c (backR l x) (backR l x) hfb hfb
    rw [← hzs] at qE
    simp only [decide_true] at qS qE
    have qW : ∀ σ1, SubStore τ σ1 → Contract Try.prog 10 [v, encNs w] σ1 fun r σ' => r = .bool true ∧ σ' = σ1 := fun σ1 h1 =>
      PFun.borrow (args' := [encNs w, encNs w]) (by
        simp only [WkL]
        exact ⟨(hw'.mono (s11.trans h1)).wk (nost_sub _) (nost_sub _), Wk.refl (nost_sub _) _, trivial⟩) qS rfl
    (refine Runs.of_step Orc.nothing 300 ?_; simp -implicitDefEqProofs only [BB,seval,← decide_not,okind,vpre,vpure,intBin,intPre,strBin,strPre,popTo,argSlots,fldV,fldAV,subCells,idxVV,idxAAV,idxSV,sliceV,sliceSV,boundV,szIs,storeOp,storeS,setRowV,eff,extV,buildV,splice,eqSV,fitsL,eqCells,eqCell,minmaxV,capV,binBV,nilCheckV,bytesV,V.cells,V.stays,Orc.nothing,errV,Option.isSome_some])
    refine Go.pcallW rfl rfl rfl qW ?_
    (refine Go.of_step Orc.nothing 300 _ _ ?_; simp -implicitDefEqProofs only [BB,seval,← decide_not,okind,vpre,vpure,intBin,intPre,strBin,strPre,popTo,argSlots,fldV,fldAV,subCells,idxVV,idxAAV,idxSV,sliceV,sliceSV,boundV,szIs,storeOp,storeS,setRowV,eff,extV,buildV,splice,eqSV,fitsL,eqCells,eqCell,minmaxV,capV,binBV,nilCheckV,bytesV,Orc.nothing,d3,d10,V.cells_agg,V.cells_int,V.cells_nils,V.cells_own,V.cells_sl,V.cells_str,V.cells_bool,V.cells_fn,V.cells_ptr,V.cells_rp,V.stays_agg,V.stays_int,V.stays_nils,V.stays_own,V.stays_sl,V.stays_str,V.stays_bool,V.stays_fn,V.stays_ptr,V.stays_rp,hzc,hzcl,hzst,encNs_cells,encNs_stays])
    refine Go.pcallE rfl rfl rfl hbw2 ?_
    (refine Go.of_step Orc.nothing 300 _ _ ?_; simp -implicitDefEqProofs only [BB,seval,← decide_not,okind,vpre,vpure,intBin,intPre,strBin,strPre,popTo,argSlots,fldV,fldAV,subCells,idxVV,idxAAV,idxSV,sliceV,sliceSV,boundV,szIs,storeOp,storeS,setRowV,eff,extV,buildV,splice,eqSV,fitsL,eqCells,eqCell,minmaxV,capV,binBV,nilCheckV,bytesV,V.cells,V.stays,Orc.nothing])
    refine Go.pcallE rfl rfl rfl qE ?_
    (refine Go.of_step Orc.nothing 300 _ _ ?_; simp -implicitDefEqProofs only [BB,seval,← decide_not,okind,vpre,vpure,intBin,intPre,strBin,strPre,popTo,argSlots,fldV,fldAV,subCells,idxVV,idxAAV,idxSV,sliceV,sliceSV,boundV,szIs,storeOp,storeS,setRowV,eff,extV,buildV,splice,eqSV,fitsL,eqCells,eqCell,minmaxV,capV,binBV,nilCheckV,bytesV,V.cells,V.stays,Orc.nothing])
    obtain ⟨rows, hout, hrw⟩ := hw'
    have hcl := (hrw.mono s11).clr
    have hn := hrw.len
    have hτ7 := s8.trans s11
    rcases hout with ⟨rfl, rfl⟩ | ⟨id, rfl, ho, hk⟩
    · refine Runs.loop (fun m st => m = 0 ∧ st.σ = τ ∧ st.s 0 = encNs l ∧ st.s 3 = .ptr i3 0 0 ∧ st.s 5 = encNs l ∧ st.s 6 = encNs x.sub ∧ st.s 8 = .nils ∧ st.s 14 = vI 0) 0 ?_ ?_
      · exact ⟨rfl, rfl, rfl, rfl, rfl, rfl, rfl, rfl⟩
      · rintro m ⟨s, τ'⟩ ⟨rfl, hσ, h0, h3, h5, h6, h8, h14⟩
        simp only at hσ h0 h3 h5 h6 h8 h14
        subst hσ
        refine Runs.mix 15 ?_
        (refine Runs.of_step Orc.nothing 300 ?_; simp -implicitDefEqProofs only [BB,seval,← decide_not,okind,vpre,vpure,intBin,intPre,strBin,strPre,popTo,argSlots,fldV,fldAV,subCells,idxVV,idxAAV,idxSV,sliceV,sliceSV,boundV,szIs,storeOp,storeS,setRowV,eff,extV,buildV,splice,eqSV,fitsL,eqCells,eqCell,minmaxV,capV,binBV,nilCheckV,bytesV,Orc.nothing,h0,h3,h5,h6,h8,h14,d3,V.cells_agg,V.cells_int,V.cells_nils,V.cells_own,V.cells_sl,V.cells_str,V.cells_bool,V.cells_fn,V.cells_ptr,V.cells_rp,V.stays_agg,V.stays_int,V.stays_nils,V.stays_own,V.stays_sl,V.stays_str,V.stays_bool,V.stays_fn,V.stays_ptr,V.stays_rp,encNs_cells,encNs_stays])
        refine Runs.pcall rfl rfl rfl (q1 _) ?_
        (refine Runs.of_step Orc.nothing 300 ?_; simp -implicitDefEqProofs only [BB,seval,← decide_not,okind,vpre,vpure,intBin,intPre,strBin,strPre,popTo,argSlots,fldV,fldAV,subCells,idxVV,idxAAV,idxSV,sliceV,sliceSV,boundV,szIs,storeOp,storeS,setRowV,eff,extV,buildV,splice,eqSV,fitsL,eqCells,eqCell,minmaxV,capV,binBV,nilCheckV,bytesV,Orc.nothing,h0,h3,h5,h6,h8,h14,d3,V.cells_agg,V.cells_int,V.cells_nils,V.cells_own,V.cells_sl,V.cells_str,V.cells_bool,V.cells_fn,V.cells_ptr,V.cells_rp,V.stays_agg,V.stays_int,V.stays_nils,V.stays_own,V.stays_sl,V.stays_str,V.stays_bool,V.stays_fn,V.stays_ptr,V.stays_rp,encNs_cells,encNs_stays])
        refine Runs.pcall rfl rfl rfl (q2 _) ?_
        (refine Runs.of_step Orc.nothing 300 ?_; simp -implicitDefEqProofs only [BB,seval,← decide_not,okind,vpre,vpure,intBin,intPre,strBin,strPre,popTo,argSlots,fldV,fldAV,subCells,idxVV,idxAAV,idxSV,sliceV,sliceSV,boundV,szIs,storeOp,storeS,setRowV,eff,extV,buildV,splice,eqSV,fitsL,eqCells,eqCell,minmaxV,capV,binBV,nilCheckV,bytesV,V.cells,V.stays,Orc.nothing])
        refine Runs.pcall rfl rfl rfl (awake36_c _) ?_
        (refine Runs.of_step Orc.nothing 300 ?_; simp -implicitDefEqProofs only [BB,seval,← decide_not,okind,vpre,vpure,intBin,intPre,strBin,strPre,popTo,argSlots,fldV,fldAV,subCells,idxVV,idxAAV,idxSV,sliceV,sliceSV,boundV,szIs,storeOp,storeS,setRowV,eff,extV,buildV,splice,eqSV,fitsL,eqCells,eqCell,minmaxV,capV,binBV,nilCheckV,bytesV,V.cells,V.stays,Orc.nothing])
        exact RetV.pure hsτ rfl
    · have ho' := s11 _ _ ho
      refine Runs.loop (fun m st => ∃ i : Nat, i ≤ w.length ∧ m = w.length - i ∧ SubStore τ7 st.σ ∧ ClrW τ7 st.σ w rows ∧ st.σ id = some ⟨42, 20, rows⟩ ∧ st.s 0 = encNs l ∧ st.s 3 = .ptr i3 0 0 ∧ st.s 5 = encNs l ∧ st.s 6 = encNs x.sub ∧ st.s 8 = .own id 0 w.length ∧ st.s 14 = vI i) w.length ?_ ?_
      · exact ⟨0, by omega, rfl, hτ7, hcl, ho', rfl, rfl, rfl, rfl, by rw [← hn]; rfl, rfl⟩
      · rintro m ⟨s, τ'⟩ ⟨i, hi, rfl, hs7, hclr, hrow, h0, h3, h5, h6, h8, h14⟩
        simp only at hs7 hclr hrow h0 h3 h5 h6 h8 h14
        have e3 := hs7 _ _ a3
        refine Runs.mix 15 ?_
        (refine Runs.of_step Orc.nothing 9 ?_; simp -implicitDefEqProofs only [BB,seval,← decide_not,okind,vpre,vpure,intBin,intPre,strBin,strPre,popTo,argSlots,fldV,fldAV,subCells,idxVV,idxAAV,idxSV,sliceV,sliceSV,boundV,szIs,storeOp,storeS,setRowV,eff,extV,buildV,splice,eqSV,fitsL,eqCells,eqCell,minmaxV,capV,binBV,nilCheckV,bytesV,V.cells,V.stays,s_zero,Orc.nothing,h8,h14])
        refine And.intro (fun h => ?_) (fun h => ?_)
        · have hlt : i < w.length := by omega
          obtain ⟨u, hru, hu⟩ := hclr i _ (List.getElem?_eq_getElem hlt)
          have hc : (0 : Int) ≤ (i : Int) ∧ (i : Int) < w.length := by omega
          generalize w[i] = y at *
          simp only [ndW] at hru
          rcases hu with rfl | ⟨idw, len, ws, rfl, g2, g3, g4⟩
          · (refine Runs.of_step Orc.nothing 14 ?_; simp -implicitDefEqProofs only [BB,seval,← decide_not,okind,vpre,vpure,intBin,intPre,strBin,strPre,popTo,argSlots,fldV,fldAV,subCells,idxVV,idxAAV,idxSV,sliceV,sliceSV,boundV,szIs,storeOp,storeS,setRowV,eff,extV,buildV,splice,eqSV,fitsL,eqCells,eqCell,minmaxV,capV,binBV,nilCheckV,bytesV,V.cells,V.stays,s_zero,Orc.nothing,h8,h14,hrow,hn,hc,hru,Int.toNat_natCast])
            refine Runs.clearN rfl rfl rfl ?_
            (refine Runs.of_step Orc.nothing 300 ?_; simp -implicitDefEqProofs only [BB,seval,← decide_not,okind,vpre,vpure,intBin,intPre,strBin,strPre,popTo,argSlots,fldV,fldAV,subCells,idxVV,idxAAV,idxSV,sliceV,sliceSV,boundV,szIs,storeOp,storeS,setRowV,eff,extV,buildV,splice,eqSV,fitsL,eqCells,eqCell,minmaxV,capV,binBV,nilCheckV,bytesV,V.cells,V.stays,Orc.nothing,h0,h3,h5,h6,h8,h14])
            exact ⟨inR_i64 (by omega) (by omega), _, by omega, i + 1, by omega, rfl, hs7, hclr, hrow, by simp⟩
          · (refine Runs.of_step Orc.nothing 14 ?_; simp -implicitDefEqProofs only [BB,seval,← decide_not,okind,vpre,vpure,intBin,intPre,strBin,strPre,popTo,argSlots,fldV,fldAV,subCells,idxVV,idxAAV,idxSV,sliceV,sliceSV,boundV,szIs,storeOp,storeS,setRowV,eff,extV,buildV,splice,eqSV,fitsL,eqCells,eqCell,minmaxV,capV,binBV,nilCheckV,bytesV,V.cells,V.stays,s_zero,Orc.nothing,h8,h14,hrow,hn,hc,hru,Int.toNat_natCast])
            have hne : id ≠ idw := fun e => by subst e; rw [hrow] at g2; simp at g2
            have hle : (ws.take 0 ++ List.replicate len (V.int .i64 0) ++ ws.drop (0 + len)).length = ws.length := by simp; omega
            refine Runs.clear (id := idw) (off := 0) (len := len) (ob := ⟨3, 1, ws⟩) rfl rfl rfl g2 rfl (by simpa using g3) ?_
            have k2 := hclr.upd g2 hle
            have k3 := hs7.updK (o := ⟨3, 1, ws.take 0 ++ List.replicate len (V.int .i64 0) ++ ws.drop (0 + len)⟩) g4
            have k4 : upd τ' idw ⟨3, 1, ws.take 0 ++ List.replicate len (V.int .i64 0) ++ ws.drop (0 + len)⟩ id = some ⟨42, 20, rows⟩ := by rw [upd_ne hne]; exact hrow
            generalize ws.take 0 ++ List.replicate len (V.int .i64 0) ++ ws.drop (0 + len) = ws' at *
            (refine Runs.of_step Orc.nothing 300 ?_; simp -implicitDefEqProofs only [BB,seval,← decide_not,okind,vpre,vpure,intBin,intPre,strBin,strPre,popTo,argSlots,fldV,fldAV,subCells,idxVV,idxAAV,idxSV,sliceV,sliceSV,boundV,szIs,storeOp,storeS,setRowV,eff,extV,buildV,splice,eqSV,fitsL,eqCells,eqCell,minmaxV,capV,binBV,nilCheckV,bytesV,V.cells,V.stays,Orc.nothing,h0,h3,h5,h6,h8,h14])
            exact ⟨inR_i64 (by omega) (by omega), _, by omega, i + 1, by omega, rfl, k3, k2, k4, by simp⟩
        · have hie : i = w.length := by omega
          subst hie
          have hsf := hs.trans hs7
          (refine Runs.of_step Orc.nothing 300 ?_; simp -implicitDefEqProofs only [BB,seval,← decide_not,okind,vpre,vpure,intBin,intPre,strBin,strPre,popTo,argSlots,fldV,fldAV,subCells,idxVV,idxAAV,idxSV,sliceV,sliceSV,boundV,szIs,storeOp,storeS,setRowV,eff,extV,buildV,splice,eqSV,fitsL,eqCells,eqCell,minmaxV,capV,binBV,nilCheckV,bytesV,Orc.nothing,h0,h3,h5,h6,h8,h14,e3,V.cells_agg,V.cells_int,V.cells_nils,V.cells_own,V.cells_sl,V.cells_str,V.cells_bool,V.cells_fn,V.cells_ptr,V.cells_rp,V.stays_agg,V.stays_int,V.stays_nils,V.stays_own,V.stays_sl,V.stays_str,V.stays_bool,V.stays_fn,V.stays_ptr,V.stays_rp,encNs_cells,encNs_stays])
          refine Runs.pcall rfl rfl rfl (q1 _) ?_
          (refine Runs.of_step Orc.nothing 300 ?_; simp -implicitDefEqProofs only [BB,seval,← decide_not,okind,vpre,vpure,intBin,intPre,strBin,strPre,popTo,argSlots,fldV,fldAV,subCells,idxVV,idxAAV,idxSV,sliceV,sliceSV,boundV,szIs,storeOp,storeS,setRowV,eff,extV,buildV,splice,eqSV,fitsL,eqCells,eqCell,minmaxV,capV,binBV,nilCheckV,bytesV,Orc.nothing,h0,h3,h5,h6,h8,h14,e3,V.cells_agg,V.cells_int,V.cells_nils,V.cells_own,V.cells_sl,V.cells_str,V.cells_bool,V.cells_fn,V.cells_ptr,V.cells_rp,V.stays_agg,V.stays_int,V.stays_nils,V.stays_own,V.stays_sl,V.stays_str,V.stays_bool,V.stays_fn,V.stays_ptr,V.stays_rp,encNs_cells,encNs_stays])
          refine Runs.pcall rfl rfl rfl (q2 _) ?_
          (refine Runs.of_step Orc.nothing 300 ?_; simp -implicitDefEqProofs only [BB,seval,← decide_not,okind,vpre,vpure,intBin,intPre,strBin,strPre,popTo,argSlots,fldV,fldAV,subCells,idxVV,idxAAV,idxSV,sliceV,sliceSV,boundV,szIs,storeOp,storeS,setRowV,eff,extV,buildV,splice,eqSV,fitsL,eqCells,eqCell,minmaxV,capV,binBV,nilCheckV,bytesV,V.cells,V.stays,Orc.nothing])
          refine Runs.pcall rfl rfl rfl (awake36_c _) ?_
          (refine Runs.of_step Orc.nothing 300 ?_; simp -implicitDefEqProofs only [BB,seval,← decide_not,okind,vpre,vpure,intBin,intPre,strBin,strPre,popTo,argSlots,fldV,fldAV,subCells,idxVV,idxAAV,idxSV,sliceV,sliceSV,boundV,szIs,storeOp,storeS,setRowV,eff,extV,buildV,splice,eqSV,fitsL,eqCells,eqCell,minmaxV,capV,binBV,nilCheckV,bytesV,V.cells,V.stays,Orc.nothing])
          exact RetV.pure hsf rfl
end Go.Vc
