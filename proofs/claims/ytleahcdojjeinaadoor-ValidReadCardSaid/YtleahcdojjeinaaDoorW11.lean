/- Part 11 of the library of this proof. -/
import Derived.Test.YtleahcdojjeinaaDoorW10
set_option linter.all false
namespace Go.Vc
open Go.Proofs
mutual
/-- the nodes of a shape; of shapes -/
def toldS : Shp → List Nd
  | .box w h => [ndS (.box w h)]
  | .block s inner => { ndS (.block s inner) with size := 1 + ((toldL inner).length : Int) } :: toldL inner
  | .text ns => [ndS (.text ns)]
  | .float w h d => [ndS (.float w h d)]
def toldL : List Shp → List Nd
  | [] => []
  | x :: l => toldS x ++ toldL l
/-- twelve numbers in each block, two and more in each text -/
def wfS : Shp → Prop
  | .box _ _ => True
  | .block s inner => s.length = 12 ∧ wfL inner
  | .text ns => 2 ≤ ns.length
  | .float _ _ _ => True
def wfL : List Shp → Prop
  | [] => True
  | x :: l => wfS x ∧ wfL l
end
theorem toldL_append (a b : List Shp) : toldL (a ++ b) = toldL a ++ toldL b := by
  induction a with
  | nil => simp [toldL]
  | cons x l ih => simp [toldL, ih]
theorem wfL_get {l : List Shp} (h : wfL l) {i : Nat} (hi : i < l.length) : wfS l[i] := by
  induction l generalizing i with
  | nil => simp at hi
  | cons x l ih =>
    rw [wfL] at h
    cases i with
    | zero => exact h.1
    | succ i => exact ih h.2 (by simpa using hi)
theorem toldL_take {l : List Shp} {i : Nat} (hi : i < l.length) : toldL (l.take (i + 1)) = toldL (l.take i) ++ toldS l[i] := by
  rw [List.take_succ, toldL_append, List.getElem?_eq_getElem hi]
  simp [toldL]
theorem toldL_mem {l : List Shp} {i : Nat} (hi : i < l.length) : (toldL (l.take i)).length + (toldS l[i]).length ≤ (toldL l).length := by
  have h1 : toldL l = toldL (l.take (i + 1)) ++ toldL (l.drop (i + 1)) := by rw [← toldL_append, List.take_append_drop]
  rw [h1, toldL_take hi]
  simp only [List.length_append]
  omega
theorem toldL_ge (l : List Shp) : l.length ≤ (toldL l).length := by
  induction l with
  | nil => simp
  | cons x l ih =>
    rw [toldL, List.length_append, List.length_cons]
    have : 1 ≤ (toldS x).length := by cases x <;> simp [toldS]
    omega
theorem idx_shp (σ : Store) {l : List Shp} {i : Nat} (hi : i < l.length) : idxAV σ 1 (.sl 1 (l.map encS)) (.int .i64 i) = some (.rp (encS l[i])) := by
  simp [idxAV, hi]
theorem loadV_rp_shp (σ : Store) (sz : Nat) (x : Shp) : loadV σ false sz (.rp (encS x)) = some (encS x) := by cases x <;> simp [encS, loadV]
theorem meth_c (x : Shp) (h : wfS x) : ∃ t v f, encS x = .iface t v ∧ ([(105, 159), (109, 160), (140, 161), (142, 162)] : List (TypeId × FuncId)).lookup t = some f ∧ PFun Tryd.prog f [v] (encN (ndS x)) := by
  cases x with
  | box w v => exact ⟨105, .agg [vI w, vI v], 159, by rw [encS], rfl, mbox_c w v⟩
  | float w v d => exact ⟨142, .agg [vI w, vI v, vI d], 162, by rw [encS], rfl, mfloat_c w v d⟩
  | block s inner =>
    rw [wfS] at h
    exact ⟨_, _, _, by rw [encS], rfl, mblock_c s h.1 (.sl 1 (encSs inner)) rfl rfl⟩
  | text ns =>
    rw [wfS] at h
    match ns, h with
    | a :: b :: r, _ => exact ⟨_, _, _, by rw [encS], rfl, mtext_c a b r⟩
set_option maxRecDepth 100000 in
theorem told_c : ∀ (F : Nat) (xs : List Shp), (toldL xs).length ≤ F → (toldL xs).length ≤ 1000000 → xs.length ≤ 1000000 → wfL xs → PFun Tryd.prog 35 [.sl 1 (xs.map encS)] (encNs (toldL xs)) := by
  intro F
  induction F using Nat.strongRecOn with
  | _ F ih =>
    intro xs hF hl hxl hwf σ
    refine Contract.of_runs Tryd.func35 e35 k35 (by simp [c35]) ?_
    refine Runs.mix 10 ?_
    have hlen : lenV false (.sl 1 (xs.map encS)) = some (.int .i64 (xs.length : Int)) := by simp [lenV]
    (refine Runs.of_step Orc.nothing 300 ?_; simp -implicitDefEqProofs only [BB,seval,effR_some,effD_some,← decide_not,okind,vpre,vpure,intBin,intPre,strBin,strPre,popTo,argSlots,fldV,fldAV,subCells,idxVV,idxAAV,idxSV,sliceV,sliceSV,boundV,szIs,storeOp,storeS,setRowV,eff,extV,buildV,splice,eqSV,fitsL,eqCells,eqCell,minmaxV,capV,binBV,nilCheckV,bytesV,V.cells,V.stays,Orc.nothing,c35,hlen])
    refine Runs.loop (fun m st => ∃ i, i ≤ xs.length ∧ m = xs.length - i ∧ SubStore σ st.σ ∧ OutV σ st.σ 37 20 (st.s 3) ((toldL (xs.take i)).map encN) ∧ st.s 10 = .sl 1 (xs.map encS) ∧ st.s 11 = vI (xs.length : Int) ∧ st.s 12 = vI (i : Int)) xs.length
      ⟨0, by omega, by omega, SubStore.refl σ, OutV.start, rfl, rfl, rfl⟩ ?_
    rintro m ⟨S, σc⟩ ⟨i, hi, rfl, sub, out, p10, p11, p12⟩
    simp only at sub out p10 p11 p12
    refine Runs.mix 10 ?_
    by_cases hlt : i < xs.length
    · have hlt' : ((i : Int) < (xs.length : Int)) = True := by simp [hlt]
      have hix := idx_shp σc hlt
      (refine Runs.of_step Orc.nothing 300 ?_; simp -implicitDefEqProofs only [BB,seval,effR_some,effD_some,← decide_not,okind,vpre,vpure,intBin,intPre,strBin,strPre,popTo,argSlots,fldV,fldAV,subCells,idxVV,idxAAV,idxSV,sliceV,sliceSV,boundV,szIs,storeOp,storeS,setRowV,eff,extV,buildV,splice,eqSV,fitsL,eqCells,eqCell,minmaxV,capV,binBV,nilCheckV,bytesV,V.cells,V.stays,Orc.nothing,p10,p11,p12,hlt',hix,loadV_rp_shp])
      obtain ⟨t, v, f, h1, h2, h3⟩ := meth_c xs[i] (wfL_get hwf hlt)
      refine Runs.inv (t := t) (v := v) rfl rfl (by exact h1) h2 (h3 _) ?_
      rintro r1 σ1 ⟨rfl, rfl⟩
      (refine Runs.of_step Orc.nothing 300 ?_; simp -implicitDefEqProofs only [BB,seval,← decide_not,okind,vpre,vpure,intBin,intPre,strBin,strPre,popTo,argSlots,fldV,fldAV,subCells,idxVV,idxAAV,idxSV,sliceV,sliceSV,boundV,szIs,storeOp,storeS,setRowV,eff,extV,buildV,splice,eqSV,fitsL,eqCells,eqCell,minmaxV,capV,binBV,nilCheckV,bytesV,V.cells,V.stays,Orc.nothing])
      refine effR_new fun id6 σ6 s6 a6 f6 => ?_
      have z6 : σ id6 = none := sub.none f6
      have sub6 : SubStore σ σ6 := sub.trans s6
      have out6 := out.mono s6
      have htas : tasV 109 true (.agg [.int .i64 0, .int .i64 0, .int .i64 0, .int .i64 0, .int .i64 0, .int .i64 0, .int .i64 0, .int .i64 0, .int .i64 0, .int .i64 0, .int .i64 0, .int .i64 0, .nils]) (encS xs[i]) = (match xs[i] with
        | .block s inner => some (.tup [.agg (s.map vI ++ [.sl 1 (encSs inner)]), .bool true])
        | _ => some (.tup [.agg [.int .i64 0, .int .i64 0, .int .i64 0, .int .i64 0, .int .i64 0, .int .i64 0, .int .i64 0, .int .i64 0, .int .i64 0, .int .i64 0, .int .i64 0, .int .i64 0, .nils], .bool false])) := by
        cases xs[i] <;> simp [encS, tasV]
      have hwx := wfL_get hwf hlt
      have htk := toldL_take hlt
      have hmem := toldL_mem hlt
      generalize hx : xs[i] = x at *
      have plain : (∀ s inner, x ≠ .block s inner) → toldS x = [ndS x] ∧ tasV 109 true (.agg [.int .i64 0, .int .i64 0, .int .i64 0, .int .i64 0, .int .i64 0, .int .i64 0, .int .i64 0, .int .i64 0, .int .i64 0, .int .i64 0, .int .i64 0, .int .i64 0, .nils]) (encS x) = some (.tup [.agg [.int .i64 0, .int .i64 0, .int .i64 0, .int .i64 0, .int .i64 0, .int .i64 0, .int .i64 0, .int .i64 0, .int .i64 0, .int .i64 0, .int .i64 0, .int .i64 0, .nils], .bool false]) := by
        intro hb
        cases x with
        | block s inner => exact absurd rfl (hb s inner)
        | box w h => exact ⟨by rw [toldS], htas⟩
        | text ns => exact ⟨by rw [toldS], htas⟩
        | float w h d => exact ⟨by rw [toldS], htas⟩
      by_cases hb : ∃ s inner, x = .block s inner
      · obtain ⟨s, inner, rfl⟩ := hb
        simp only at htas
        rw [wfS] at hwx
        rw [encSs_eq] at htas
        generalize hxv : encS (Shp.block s inner) = xv at *
        have hbs : toldS (.block s inner) = { ndS (.block s inner) with size := 1 + ((toldL inner).length : Int) } :: toldL inner := by rw [toldS]
        rw [hbs] at htk hmem
        simp only [List.length_cons] at hmem
        have hcl : (s.map vI ++ [V.sl 1 (inner.map encS)]).length = 13 := by simp [hwx.1]
        have hs00 : setRowV (.agg [.int .i64 0, .int .i64 0, .int .i64 0, .int .i64 0, .int .i64 0, .int .i64 0, .int .i64 0, .int .i64 0, .int .i64 0, .int .i64 0, .int .i64 0, .int .i64 0, .nils]) 0 13 (.agg (s.map vI ++ [.sl 1 (inner.map encS)])) = some (.agg (s.map vI ++ [.sl 1 (inner.map encS)])) := by
          unfold setRowV
          rw [if_pos ⟨hcl, rfl⟩, if_pos ⟨rfl, rfl⟩]
        have h12 : (s.map vI ++ [V.sl 1 (inner.map encS)])[12]? = some (.sl 1 (inner.map encS)) := by
          rw [List.getElem?_append_right (by simp [hwx.1])]; simp [hwx.1]
        generalize hy : ndS (Shp.block s inner) = y at *
        have hysz : y.size = 1 := by rw [← hy]; rfl
        simp -implicitDefEqProofs only [BB,seval,← decide_not,okind,vpre,vpure,intBin,intPre,strBin,strPre,popTo,argSlots,fldV,fldAV,subCells,idxVV,idxAAV,idxSV,sliceV,sliceSV,boundV,szIs,storeOp,storeS,setRowV,eff,extV,buildV,splice,eqSV,fitsL,eqCells,eqCell,minmaxV,capV,binBV,nilCheckV,bytesV,V.cells,V.stays,a6,encN,Nd.cells,htas]
        refine effR_new fun id7 σ7 s7 a7 f7 => ?_
        have b6 : σ7 id6 = some ⟨37, 20, [.agg y.cells]⟩ := s7 _ _ upd_same
        have n67 : id6 ≠ id7 := ne_new (σ := upd σ6 id6 ⟨37, 20, [.agg y.cells]⟩) upd_same f7
        have S1 := s6.updK (o := ⟨37, 20, [.agg y.cells]⟩) f6
        simp only [Nd.cells,hysz] at b6
        simp -implicitDefEqProofs only [BB,seval,← decide_not,okind,vpre,vpure,intBin,intPre,strBin,strPre,popTo,argSlots,fldV,fldAV,subCells,idxVV,idxAAV,idxSV,sliceV,sliceSV,boundV,szIs,storeOp,storeS,eff,extV,buildV,splice,eqSV,fitsL,eqCells,eqCell,minmaxV,capV,binBV,nilCheckV,bytesV,V.cells,V.stays,a7,hs00,h12,V.cells_agg]
        have hge := toldL_ge inner
        refine Runs.pcall rfl rfl rfl (ih (toldL inner).length (by omega) inner (Nat.le_refl _) (by omega) (by omega) hwx.2 _) ?_
        have hle : lenV false (encNs (toldL inner)) = some (.int .i64 ((toldL inner).length : Int)) := by simp [encNs, lenV]
        have hin1 : inR .i64 (1 + ((toldL inner).length : Int)) := inR_i64 (by omega) (by omega)
        (refine Runs.of_step Orc.nothing 300 ?_; simp -implicitDefEqProofs only [BB,seval,← decide_not,okind,vpre,vpure,intBin,intPre,strBin,strPre,popTo,argSlots,fldV,fldAV,subCells,idxVV,idxAAV,idxSV,sliceV,sliceSV,boundV,szIs,storeOp,storeS,setRowV,eff,extV,buildV,splice,eqSV,fitsL,eqCells,eqCell,minmaxV,capV,binBV,nilCheckV,bytesV,V.cells,V.stays,Orc.nothing,b6,upd_ne n67,hle,hin1])
        refine effR_new fun id40 σ40 s40 a40 f40 => ?_
        have S2 := SubStore.trans (SubStore.updK (S1.trans (s7.updK f7)) f6) s40
        obtain ⟨idA, hda, hdA⟩ := out.dst' S2
        have hb : ((toldL (xs.take i)).length + 1) * 177 ≤ 140737488355328 := by omega
        simp -implicitDefEqProofs only [BB,seval,← decide_not,okind,vpre,vpure,intBin,intPre,strBin,strPre,popTo,argSlots,fldV,fldAV,subCells,idxVV,idxAAV,idxSV,sliceV,sliceSV,boundV,szIs,storeOp,storeS,setRowV,eff,extV,buildV,splice,eqSV,fitsL,eqCells,eqCell,minmaxV,capV,binBV,nilCheckV,bytesV,V.cells_agg,V.cells_int,V.cells_nils,V.cells_own,V.cells_sl,V.cells_str,V.cells_bool,V.cells_fn,V.cells_ptr,V.cells_rp,V.stays_agg,V.stays_int,V.stays_nils,V.stays_own,V.stays_sl,V.stays_str,V.stays_bool,V.stays_fn,V.stays_ptr,V.stays_rp,hda,srcOne a40,List.length_map,hb]
        refine effR_put fun id41 σ41 s41 a41 f41 => ?_
        have keep41 : ∀ q o, σ q = some o → σ41 q = some o := fun q o ho => keepA hdA s41 q o (by rw [ho]; simp) (S2 _ _ (sub _ _ ho))
        have out41 := OutV.new (K := σ) (n := (toldL (xs.take i)).length + 1) (by simp) a41 (sub.none (S2.none f41))
        obtain ⟨idB, hdb, hdB⟩ := out41.dst' (SubStore.refl σ41)
        have hsr : srcRows σ41 20 (encNs (toldL inner)) = some ((toldL inner).map encN) := by simp [encNs, srcRows]
        have hb2 : ((toldL (xs.take i)).length + 1 + (toldL inner).length) * 177 ≤ 140737488355328 := by omega
        simp -implicitDefEqProofs only [BB,seval,← decide_not,okind,vpre,vpure,intBin,intPre,strBin,strPre,popTo,argSlots,fldV,fldAV,subCells,idxVV,idxAAV,idxSV,sliceV,sliceSV,boundV,szIs,storeOp,storeS,setRowV,eff,extV,buildV,splice,eqSV,fitsL,eqCells,eqCell,minmaxV,capV,binBV,nilCheckV,bytesV,V.cells_agg,V.cells_int,V.cells_nils,V.cells_own,V.cells_sl,V.cells_str,V.cells_bool,V.cells_fn,V.cells_ptr,V.cells_rp,V.stays_agg,V.stays_int,V.stays_nils,V.stays_own,V.stays_sl,V.stays_str,V.stays_bool,V.stays_fn,V.stays_ptr,V.stays_rp,hdb,hsr,List.length_append,List.length_map,hb2]
        refine effR_put fun id43 σ43 s43 a43 f43 => ?_
        have hin : inR .i64 ((i : Int) + 1) := inR_i64 (by omega) (by omega)
        simp -implicitDefEqProofs only [BB,seval,← decide_not,okind,vpre,vpure,intBin,intPre,strBin,strPre,popTo,argSlots,fldV,fldAV,subCells,idxVV,idxAAV,idxSV,sliceV,sliceSV,boundV,szIs,storeOp,storeS,setRowV,eff,extV,buildV,splice,eqSV,fitsL,eqCells,eqCell,minmaxV,capV,binBV,nilCheckV,bytesV,V.cells,V.stays,p10,p11,p12,hin]
        have sub43 : SubStore σ σ43 := fun q o ho => keepA hdB s43 q o (by rw [ho]; simp) (keep41 _ _ ho)
        refine ⟨xs.length - (i + 1), by omega, i + 1, by omega, rfl, sub43, ?_, by simp⟩
        rw [htk, List.map_append]
        refine OutV.new (by simp; omega) (by rw [a43]; simp [encN, Nd.cells, List.append_assoc]) (by
          cases hs : σ id43 with
          | none => rfl
          | some o => rw [keep41 _ _ hs] at f43; cases f43)
      · obtain ⟨q1, q2⟩ := plain fun s inner e => hb ⟨s, inner, e⟩
        rw [q1] at htk hmem
        simp only [List.length_cons,List.length_nil] at hmem
        generalize hy : ndS x = y at *
        simp -implicitDefEqProofs only [BB,seval,← decide_not,okind,vpre,vpure,intBin,intPre,strBin,strPre,popTo,argSlots,fldV,fldAV,subCells,idxVV,idxAAV,idxSV,sliceV,sliceSV,boundV,szIs,storeOp,storeS,setRowV,eff,extV,buildV,splice,eqSV,fitsL,eqCells,eqCell,minmaxV,capV,binBV,nilCheckV,bytesV,V.cells,V.stays,a6,encN,Nd.cells,q2]
        refine effR_new fun id7 σ7 s7 a7 f7 => ?_
        have b6 : σ7 id6 = some ⟨37, 20, [.agg y.cells]⟩ := s7 _ _ upd_same
        have n67 : id6 ≠ id7 := ne_new (σ := upd σ6 id6 ⟨37, 20, [.agg y.cells]⟩) upd_same f7
        have S1 := s6.updK (o := ⟨37, 20, [.agg y.cells]⟩) f6
        simp only [Nd.cells] at b6
        simp -implicitDefEqProofs only [BB,seval,← decide_not,okind,vpre,vpure,intBin,intPre,strBin,strPre,popTo,argSlots,fldV,fldAV,subCells,idxVV,idxAAV,idxSV,sliceV,sliceSV,boundV,szIs,storeOp,storeS,setRowV,eff,extV,buildV,splice,eqSV,fitsL,eqCells,eqCell,minmaxV,capV,binBV,nilCheckV,bytesV,V.cells,V.stays,a7,b6,upd_ne n67]
        refine effR_new fun id27 σ27 s27 a27 f27 => ?_
        have S2 := (S1.trans (s7.updK f7)).trans s27
        obtain ⟨idA, hda, hdA⟩ := out.dst' S2
        have hb : ((toldL (xs.take i)).length + 1) * 177 ≤ 140737488355328 := by omega
        simp -implicitDefEqProofs only [BB,seval,← decide_not,okind,vpre,vpure,intBin,intPre,strBin,strPre,popTo,argSlots,fldV,fldAV,subCells,idxVV,idxAAV,idxSV,sliceV,sliceSV,boundV,szIs,storeOp,storeS,setRowV,eff,extV,buildV,splice,eqSV,fitsL,eqCells,eqCell,minmaxV,capV,binBV,nilCheckV,bytesV,V.cells_agg,V.cells_int,V.cells_nils,V.cells_own,V.cells_sl,V.cells_str,V.cells_bool,V.cells_fn,V.cells_ptr,V.cells_rp,V.stays_agg,V.stays_int,V.stays_nils,V.stays_own,V.stays_sl,V.stays_str,V.stays_bool,V.stays_fn,V.stays_ptr,V.stays_rp,hda,srcOne a27,List.length_map,hb]
        refine effR_put fun id28 σ28 s28 a28 f28 => ?_
        have hin : inR .i64 ((i : Int) + 1) := inR_i64 (by omega) (by omega)
        simp -implicitDefEqProofs only [BB,seval,← decide_not,okind,vpre,vpure,intBin,intPre,strBin,strPre,popTo,argSlots,fldV,fldAV,subCells,idxVV,idxAAV,idxSV,sliceV,sliceSV,boundV,szIs,storeOp,storeS,setRowV,eff,extV,buildV,splice,eqSV,fitsL,eqCells,eqCell,minmaxV,capV,binBV,nilCheckV,bytesV,V.cells,V.stays,p10,p11,p12,hin]
        have sub28 : SubStore σ σ28 := fun q o ho => keepA hdA s28 q o (by rw [ho]; simp) (S2 _ _ (sub _ _ ho))
        refine ⟨xs.length - (i + 1), by omega, i + 1, by omega, rfl, sub28, ?_, by simp⟩
        rw [htk, List.map_append]
        exact OutV.new (by simp) (by rw [a28]; rfl) (sub.none (S2.none f28))
    · have e : i = xs.length := by omega
      subst e
      have hlt' : ((xs.length : Int) < (xs.length : Int)) = False := by simp
      (refine Runs.of_step Orc.nothing 300 ?_; simp -implicitDefEqProofs only [BB,seval,effR_some,effD_some,← decide_not,okind,vpre,vpure,intBin,intPre,strBin,strPre,popTo,argSlots,fldV,fldAV,subCells,idxVV,idxAAV,idxSV,sliceV,sliceSV,boundV,szIs,storeOp,storeS,setRowV,eff,extV,buildV,splice,eqSV,fitsL,eqCells,eqCell,minmaxV,capV,binBV,nilCheckV,bytesV,V.cells,V.stays,Orc.nothing,p10,p11,p12,hlt'])
      rw [List.take_length] at out
      exact out.retv sub rfl
end Go.Vc
namespace Go.Vc
open Go.Proofs
theorem textR_ge (l : List Tk) : 2 ≤ (textR l).1.length := by unfold textR; simp
theorem nodesR_wf : ∀ (f : Nat) (l : List Tk), wfL (nodesR f l).1 ∧ (toldL (nodesR f l).1).length + (nodesR f l).2.1.length ≤ l.length
  | 0, l => ⟨by simp [nodesR, wfL], by simp [nodesR, toldL]⟩
  | f + 1, l => by
    have hT : ∀ l w, wfL (if w = true then (([] : List Shp), l, true) else nodesR f l).1 ∧ (toldL (if w = true then (([] : List Shp), l, true) else nodesR f l).1).length + (if w = true then (([] : List Shp), l, true) else nodesR f l).2.1.length ≤ l.length := by
      intro l w
      split
      · exact ⟨by simp [wfL], by simp [toldL]⟩
      · exact nodesR_wf f l
    unfold nodesR
    split
    · rename_i hs
      have h1 := (takeR_yes hs).2
      have h2 := attrsT_len (fun _ => true) plainS l.tail false
      have h3 := hT (attrsT (fun _ => true) plainS l.tail false).2.1 (attrsT (fun _ => true) plainS l.tail false).2.2
      simp only
      generalize attrsT (fun _ => true) plainS l.tail false = a at *
      generalize (if a.2.2 = true then (([] : List Shp), a.2.1, true) else nodesR f a.2.1) = n at *
      have h4 := takeR_len 93 n.2.1 n.2.2
      generalize takeR 93 n.2.1 n.2.2 = c at *
      have h5 := hT c.1 c.2
      refine ⟨by rw [wfL, wfS]; exact ⟨⟨h2.1, h3.1⟩, h5.1⟩, ?_⟩
      rw [toldL, toldS]
      simp only [List.length_append,List.length_cons]
      omega
    · split
      · rename_i hs
        have h1 := textR_len hs
        have h2 := textR_ge l
        simp only
        have h5 := hT (textR l).2.1 (textR l).2.2
        refine ⟨by rw [wfL, wfS]; exact ⟨h2, h5.1⟩, ?_⟩
        rw [toldL, toldS]
        simp only [List.length_append,List.length_cons,List.length_nil]
        omega
      · split
        · rename_i hs
          have h1 := (takeR_yes hs).2
          have h2 := boxR_len 125 l.tail false
          simp only
          have h5 := hT (boxR 125 l.tail false).2.2.1 (boxR 125 l.tail false).2.2.2
          refine ⟨by rw [wfL, wfS]; exact ⟨trivial, h5.1⟩, ?_⟩
          rw [toldL, toldS]
          simp only [List.length_append,List.length_cons,List.length_nil]
          omega
        · split
          · rename_i hs
            have h1 := floatR_len hs
            have hx : ∃ w h d, (floatR l false).1 = .float w h d := ⟨_, _, _, rfl⟩
            simp only
            have h5 := hT (floatR l false).2.1 (floatR l false).2.2
            obtain ⟨w, v, d, hx⟩ := hx
            rw [hx]
            refine ⟨by rw [wfL, wfS]; exact ⟨trivial, h5.1⟩, ?_⟩
            rw [toldL, toldS]
            simp only [List.length_append,List.length_cons,List.length_nil]
            omega
          · exact ⟨by simp [wfL], by simp [toldL]⟩
theorem fromT_len : ∀ (L l : List Tk), fromT L = .ok l → l.length ≤ L.length
  | [], l, h => by simp only [fromT,Res.ok.injEq] at h; subst h; simp
  | t :: L, l, h => by
    unfold fromT at h
    split at h
    · cases h
    · cases hL : fromT L with
      | bad p => rw [hL] at h; simp [Res.cons] at h
      | ok m =>
        rw [hL] at h
        simp only [Res.cons,Res.ok.injEq] at h
        subst h
        have := fromT_len L m hL
        simp only [List.length_cons]; omega
theorem ofI_len {s : List UInt8} {l : List Tk} (h : ofI s false 0 = .ok l) : l.length ≤ s.length := by
  rw [← ofC_eq] at h
  unfold ofC at h
  split at h
  · exact Nat.le_trans (fromT_len _ _ h) (by simpa using allI_len s s.length 0 0 (by omega))
  · split at h <;> cases h
def readR (s : List UInt8) : List Nd × Int × Int := match ofI s false 0 with
  | .bad p => ([], p, 1)
  | .ok l => match (nodesR l.length l).2.1 with
    | t :: _ => ([], t.at', 1)
    | [] => if (nodesR l.length l).2.2 then ([], s.length, 1) else (toldL (nodesR l.length l).1, 0, 0)
def readV (r : List Nd × Int × Int) : V := .tup [encNs r.1, vI r.2.1, vI r.2.2]
theorem retE {σ : Store} {a b : Int} {τ : Store} (h : SubStore σ τ) : RetV (.tup [.nils, vI a, vI b]) τ fun r σ' => r = readV ([], a, b) ∧ σ' = σ :=
  ⟨_, σ, h, Wk.tup (by simp only [WkL]; exact ⟨Wk.nils 20, Wk.refl h _, Wk.refl h _, trivial⟩), rfl, rfl⟩
theorem readOf_c (s : List UInt8) (hs : s.length ≤ 1000000) : PFun Tryd.prog 12 [.str s] (readV (readR s)) := fun σ => by
  refine Contract.of_runs Tryd.func12 e12 k12 (by simp [c12]) ?_
  refine Runs.mix 8 ?_
  (refine Runs.of_step Orc.nothing 300 ?_; simp -implicitDefEqProofs only [BB,seval,effR_some,effD_some,← decide_not,okind,vpre,vpure,intBin,intPre,strBin,strPre,popTo,argSlots,fldV,fldAV,subCells,idxVV,idxAAV,idxSV,sliceV,sliceSV,boundV,szIs,storeOp,storeS,setRowV,eff,extV,buildV,splice,eqSV,fitsL,eqCells,eqCell,minmaxV,capV,binBV,nilCheckV,bytesV,V.cells,V.stays,Orc.nothing,c12])
  refine Runs.pcall rfl rfl rfl (of_lex s hs _) ?_
  cases hl : ofI s false 0 with
  | bad p =>
    have hr : readR s = ([], (p : Int), 1) := by rw [readR, hl]
    rw [hr]
    (refine Runs.of_step Orc.nothing 300 ?_; simp -implicitDefEqProofs only [BB,seval,effR_some,effD_some,← decide_not,okind,vpre,vpure,intBin,intPre,strBin,strPre,popTo,argSlots,fldV,fldAV,subCells,idxVV,idxAAV,idxSV,sliceV,sliceSV,boundV,szIs,storeOp,storeS,setRowV,eff,extV,buildV,splice,eqSV,fitsL,eqCells,eqCell,minmaxV,capV,binBV,nilCheckV,bytesV,V.cells,V.stays,Orc.nothing,resT])
    exact retE (SubStore.refl _)
  | ok l =>
    have hll := ofI_len hl
    (refine Runs.of_step Orc.nothing 300 ?_; simp -implicitDefEqProofs only [BB,seval,← decide_not,okind,vpre,vpure,intBin,intPre,strBin,strPre,popTo,argSlots,fldV,fldAV,subCells,idxVV,idxAAV,idxSV,sliceV,sliceSV,boundV,szIs,storeOp,storeS,setRowV,eff,extV,buildV,splice,eqSV,fitsL,eqCells,eqCell,minmaxV,capV,binBV,nilCheckV,bytesV,V.cells,V.stays,Orc.nothing,resT])
    refine effR_new fun id6 σ6 s6 a6 f6 => ?_
    have h6 : σ6 id6 = some (rdr l false) := a6
    simp -implicitDefEqProofs only [BB,seval,← decide_not,okind,vpre,vpure,intBin,intPre,strBin,strPre,popTo,argSlots,fldV,fldAV,subCells,idxVV,idxAAV,idxSV,sliceV,sliceSV,boundV,szIs,storeOp,storeS,setRowV,eff,extV,buildV,splice,eqSV,fitsL,eqCells,eqCell,minmaxV,capV,binBV,nilCheckV,bytesV,V.cells,V.stays]
    refine Runs.call rfl rfl rfl (nodes_c l.length σ6 id6 l false (Nat.le_refl _) (by omega) h6) ?_
    have hn0 : nodesT l.length l false = nodesR l.length l := rfl
    rw [hn0]
    have hwf := nodesR_wf l.length l
    generalize hn : nodesR l.length l = n at *
    rintro r1 σ7 ⟨rfl, hσ7⟩
    have hσ7 : σ7 = upd σ6 id6 (rdr n.2.1 n.2.2) := hσ7
    have sub7 : SubStore σ σ7 := by rw [hσ7]; exact s6.updK f6
    have h7 : σ7 id6 = some (rdr n.2.1 n.2.2) := by rw [hσ7]; exact upd_same
    cases hrest : n.2.1 with
    | cons t r =>
      have hr : readR s = ([], t.at', 1) := by rw [readR, hl]; simp only [hn,hrest]
      rw [hr]
      rw [hrest] at h7
      have h7 : σ7 id6 = some ⟨57, 2, [.agg [.sl 4 (encT t :: r.map encT), .bool n.2.2]]⟩ := h7
      (refine Runs.of_step Orc.nothing 300 ?_; simp -implicitDefEqProofs only [BB,seval,effR_some,effD_some,← decide_not,okind,vpre,vpure,intBin,intPre,strBin,strPre,popTo,argSlots,fldV,fldAV,subCells,idxVV,idxAAV,idxSV,sliceV,sliceSV,boundV,szIs,storeOp,storeS,setRowV,eff,extV,buildV,splice,eqSV,fitsL,eqCells,eqCell,minmaxV,capV,binBV,nilCheckV,bytesV,V.cells,V.stays,Orc.nothing,h7,len1,idx0])
      exact retE sub7
    | nil =>
      rw [hrest] at h7 hwf
      have h7 : σ7 id6 = some ⟨57, 2, [.agg [.sl 4 [], .bool n.2.2]]⟩ := h7
      cases hw : n.2.2 with
      | true =>
        have hr : readR s = ([], (s.length : Int), 1) := by rw [readR, hl]; simp only [hn,hrest,hw,if_true]
        rw [hr]
        rw [hw] at h7
        (refine Runs.of_step Orc.nothing 300 ?_; simp -implicitDefEqProofs only [BB,seval,effR_some,effD_some,← decide_not,okind,vpre,vpure,intBin,intPre,strBin,strPre,popTo,argSlots,fldV,fldAV,subCells,idxVV,idxAAV,idxSV,sliceV,sliceSV,boundV,szIs,storeOp,storeS,setRowV,eff,extV,buildV,splice,eqSV,fitsL,eqCells,eqCell,minmaxV,capV,binBV,nilCheckV,bytesV,V.cells,V.stays,Orc.nothing,h7,len0])
        exact retE sub7
      | false =>
        have hr : readR s = (toldL n.1, 0, 0) := by rw [readR, hl]; simp only [hn,hrest,hw,Bool.false_eq_true,if_false]
        rw [hr]
        rw [hw] at h7
        (refine Runs.of_step Orc.nothing 300 ?_; simp -implicitDefEqProofs only [BB,seval,effR_some,effD_some,← decide_not,okind,vpre,vpure,intBin,intPre,strBin,strPre,popTo,argSlots,fldV,fldAV,subCells,idxVV,idxAAV,idxSV,sliceV,sliceSV,boundV,szIs,storeOp,storeS,setRowV,eff,extV,buildV,splice,eqSV,fitsL,eqCells,eqCell,minmaxV,capV,binBV,nilCheckV,bytesV,V.cells,V.stays,Orc.nothing,h7,len0])
        simp only [List.length_nil,Nat.add_zero] at hwf
        refine Runs.pcall rfl rfl rfl (told_c l.length n.1 hwf.2 (by omega) (Nat.le_trans (toldL_ge _) (by omega)) hwf.1 _) ?_
        (refine Runs.of_step Orc.nothing 300 ?_; simp -implicitDefEqProofs only [BB,seval,effR_some,effD_some,← decide_not,okind,vpre,vpure,intBin,intPre,strBin,strPre,popTo,argSlots,fldV,fldAV,subCells,idxVV,idxAAV,idxSV,sliceV,sliceSV,boundV,szIs,storeOp,storeS,setRowV,eff,extV,buildV,splice,eqSV,fitsL,eqCells,eqCell,minmaxV,capV,binBV,nilCheckV,bytesV,V.cells,V.stays,Orc.nothing])
        exact RetV.pure sub7 rfl
end Go.Vc
namespace Go.Vc
open Go.Proofs
theorem idxT (σ : Store) {l : List Tk} {p : Nat} (h : p < l.length) : idxAV σ 4 (encL l) (.int .i64 p) = some (.rp (.agg [vI l[p].kind, .int .i32 l[p].sign, vI l[p].n, vI l[p].at'])) := by
  simp [encL, idxAV, h, encT]
theorem lenT (l : List Tk) : lenV false (encL l) = some (.int .i64 (l.length : Int)) := by simp [encL, lenV]
theorem gsign_c (l : List Tk) (p : Nat) (c : Int) : PFun Tryd.prog 69 [encL l, vI p, .int .i32 c] (.bool (signB c (l.drop p))) := fun σ => by
  refine Contract.of_runs Tryd.func69 e69 k69 (by simp [c69]) ?_
  refine Runs.mix 7 ?_
  have hl := lenT l
  by_cases h : p < l.length
  · have h' : ((p : Int) < (l.length : Int)) = True := by simp [h]
    have hi := idxT σ h
    rw [List.drop_eq_getElem_cons h]
    (refine Runs.of_step Orc.nothing 300 ?_; simp -implicitDefEqProofs only [BB,seval,effR_some,effD_some,← decide_not,okind,vpre,vpure,intBin,intPre,strBin,strPre,popTo,argSlots,fldV,fldAV,subCells,idxVV,idxAAV,idxSV,sliceV,sliceSV,boundV,szIs,storeOp,storeS,setRowV,eff,extV,buildV,splice,eqSV,fitsL,eqCells,eqCell,minmaxV,capV,binBV,nilCheckV,bytesV,V.cells,V.stays,Orc.nothing,c69,hl,h',hi])
    exact ⟨fun h => RetV.same (by simp [signB, h]), fun h => RetV.same (by simp [signB, h])⟩
  · have h' : ((p : Int) < (l.length : Int)) = False := by simp; omega
    rw [List.drop_eq_nil_of_le (by omega)]
    (refine Runs.of_step Orc.nothing 300 ?_; simp -implicitDefEqProofs only [BB,seval,effR_some,effD_some,← decide_not,okind,vpre,vpure,intBin,intPre,strBin,strPre,popTo,argSlots,fldV,fldAV,subCells,idxVV,idxAAV,idxSV,sliceV,sliceSV,boundV,szIs,storeOp,storeS,setRowV,eff,extV,buildV,splice,eqSV,fitsL,eqCells,eqCell,minmaxV,capV,binBV,nilCheckV,bytesV,V.cells,V.stays,Orc.nothing,c69,hl,h'])
    exact RetV.same rfl
theorem gnum_c (l : List Tk) (p : Nat) (a b : Int) : PFun Tryd.prog 113 [encL l, vI p, vI a, vI b] (.bool (numB a b (l.drop p))) := fun σ => by
  refine Contract.of_runs Tryd.func113 e113 k113 (by simp [c113]) ?_
  refine Runs.mix 9 ?_
  have hl := lenT l
  by_cases h : p < l.length
  · have h' : ((p : Int) < (l.length : Int)) = True := by simp [h]
    have hi := idxT σ h
    rw [List.drop_eq_getElem_cons h]
    (refine Runs.of_step Orc.nothing 300 ?_; simp -implicitDefEqProofs only [BB,seval,effR_some,effD_some,← decide_not,okind,vpre,vpure,intBin,intPre,strBin,strPre,popTo,argSlots,fldV,fldAV,subCells,idxVV,idxAAV,idxSV,sliceV,sliceSV,boundV,szIs,storeOp,storeS,setRowV,eff,extV,buildV,splice,eqSV,fitsL,eqCells,eqCell,minmaxV,capV,binBV,nilCheckV,bytesV,V.cells,V.stays,Orc.nothing,c113,hl,h',hi])
    exact ⟨fun h => ⟨fun h2 => RetV.same (by simp [numB, h, h2]), fun h2 => RetV.same (by simp [numB, h, h2])⟩, fun h => RetV.same (by simp [numB, h])⟩
  · have h' : ((p : Int) < (l.length : Int)) = False := by simp; omega
    rw [List.drop_eq_nil_of_le (by omega)]
    (refine Runs.of_step Orc.nothing 300 ?_; simp -implicitDefEqProofs only [BB,seval,effR_some,effD_some,← decide_not,okind,vpre,vpure,intBin,intPre,strBin,strPre,popTo,argSlots,fldV,fldAV,subCells,idxVV,idxAAV,idxSV,sliceV,sliceSV,boundV,szIs,storeOp,storeS,setRowV,eff,extV,buildV,splice,eqSV,fitsL,eqCells,eqCell,minmaxV,capV,binBV,nilCheckV,bytesV,V.cells,V.stays,Orc.nothing,c113,hl,h'])
    exact RetV.same rfl
theorem gmost_c : PFun Tryd.prog 115 [] (vI MX) := fun σ => by
  refine Contract.of_runs Tryd.func115 e115 k115 (by simp [c115]) ?_
  (refine Runs.of_step Orc.nothing 300 ?_; simp -implicitDefEqProofs only [BB,seval,effR_some,effD_some,← decide_not,okind,vpre,vpure,intBin,intPre,strBin,strPre,popTo,argSlots,fldV,fldAV,subCells,idxVV,idxAAV,idxSV,sliceV,sliceSV,boundV,szIs,storeOp,storeS,setRowV,eff,extV,buildV,splice,eqSV,fitsL,eqCells,eqCell,minmaxV,capV,binBV,nilCheckV,bytesV,V.cells,V.stays,Orc.nothing,c115])
  exact RetV.same rfl
def lettersB : List UInt8 := [109, 110, 112, 113, 105, 111, 119, 104, 66, 65, 73, 99]
theorem gletters_c : PFun Tryd.prog 120 [] (.str lettersB) := fun σ => by
  refine Contract.of_runs Tryd.func120 e120 k120 (by simp [c120]) ?_
  (refine Runs.of_step Orc.nothing 300 ?_; simp -implicitDefEqProofs only [BB,seval,effR_some,effD_some,← decide_not,okind,vpre,vpure,intBin,intPre,strBin,strPre,popTo,argSlots,fldV,fldAV,subCells,idxVV,idxAAV,idxSV,sliceV,sliceSV,boundV,szIs,storeOp,storeS,setRowV,eff,extV,buildV,splice,eqSV,fitsL,eqCells,eqCell,minmaxV,capV,binBV,nilCheckV,bytesV,V.cells,V.stays,Orc.nothing,c120])
  exact RetV.same rfl
end Go.Vc
namespace Go.Vc
open Go.Proofs
def limR (c : Int) : Int × Int := if c = 111 ∨ c = 119 ∨ c = 104 then (1, MX) else if c = 66 ∨ c = 65 then (0, 4) else if c = 73 then (0, 1) else if c = 99 then (0, 3) else (0, MX)
theorem glimits_c (c : Int) : PFun Tryd.prog 112 [.int .u8 c] (.tup [vI (limR c).1, vI (limR c).2]) := fun σ => by
  refine Contract.of_runs Tryd.func112 e112 k112 (by simp [c112]) ?_
  refine Runs.mix 4 ?_
  by_cases h1 : c = 111 ∨ c = 119 ∨ c = 104
  · have hr : limR c = (1, MX) := by rw [limR, if_pos h1]
    rw [hr]
    rcases h1 with rfl | rfl | rfl
    all_goals
      (refine Runs.of_step Orc.nothing 300 ?_; simp -implicitDefEqProofs only [BB,seval,effR_some,effD_some,← decide_not,okind,vpre,vpure,intBin,intPre,strBin,strPre,popTo,argSlots,fldV,fldAV,subCells,idxVV,idxAAV,idxSV,sliceV,sliceSV,boundV,szIs,storeOp,storeS,setRowV,eff,extV,buildV,splice,eqSV,fitsL,eqCells,eqCell,minmaxV,capV,binBV,nilCheckV,bytesV,V.cells,V.stays,Orc.nothing,c112])
      refine Runs.pcall rfl rfl rfl (gmost_c _) ?_
      (refine Runs.of_step Orc.nothing 300 ?_; simp -implicitDefEqProofs only [BB,seval,effR_some,effD_some,← decide_not,okind,vpre,vpure,intBin,intPre,strBin,strPre,popTo,argSlots,fldV,fldAV,subCells,idxVV,idxAAV,idxSV,sliceV,sliceSV,boundV,szIs,storeOp,storeS,setRowV,eff,extV,buildV,splice,eqSV,fitsL,eqCells,eqCell,minmaxV,capV,binBV,nilCheckV,bytesV,V.cells,V.stays,Orc.nothing])
      exact RetV.same rfl
  · have e1 : ¬ c = 111 := fun e => h1 (.inl e)
    have e2 : ¬ c = 119 := fun e => h1 (.inr (.inl e))
    have e3 : ¬ c = 104 := fun e => h1 (.inr (.inr e))
    by_cases h2 : c = 66 ∨ c = 65
    · have hr : limR c = (0, 4) := by rw [limR, if_neg h1, if_pos h2]
      rw [hr]
      rcases h2 with rfl | rfl
      all_goals
        (refine Runs.of_step Orc.nothing 300 ?_; simp -implicitDefEqProofs only [BB,seval,effR_some,effD_some,← decide_not,okind,vpre,vpure,intBin,intPre,strBin,strPre,popTo,argSlots,fldV,fldAV,subCells,idxVV,idxAAV,idxSV,sliceV,sliceSV,boundV,szIs,storeOp,storeS,setRowV,eff,extV,buildV,splice,eqSV,fitsL,eqCells,eqCell,minmaxV,capV,binBV,nilCheckV,bytesV,V.cells,V.stays,Orc.nothing,c112])
        exact RetV.same rfl
    · have e4 : ¬ c = 66 := fun e => h2 (.inl e)
      have e5 : ¬ c = 65 := fun e => h2 (.inr e)
      by_cases h3 : c = 73
      · subst h3
        (refine Runs.of_step Orc.nothing 300 ?_; simp -implicitDefEqProofs only [BB,seval,effR_some,effD_some,← decide_not,okind,vpre,vpure,intBin,intPre,strBin,strPre,popTo,argSlots,fldV,fldAV,subCells,idxVV,idxAAV,idxSV,sliceV,sliceSV,boundV,szIs,storeOp,storeS,setRowV,eff,extV,buildV,splice,eqSV,fitsL,eqCells,eqCell,minmaxV,capV,binBV,nilCheckV,bytesV,V.cells,V.stays,Orc.nothing,c112])
        exact RetV.same rfl
      · by_cases h4 : c = 99
        · subst h4
          (refine Runs.of_step Orc.nothing 300 ?_; simp -implicitDefEqProofs only [BB,seval,effR_some,effD_some,← decide_not,okind,vpre,vpure,intBin,intPre,strBin,strPre,popTo,argSlots,fldV,fldAV,subCells,idxVV,idxAAV,idxSV,sliceV,sliceSV,boundV,szIs,storeOp,storeS,setRowV,eff,extV,buildV,splice,eqSV,fitsL,eqCells,eqCell,minmaxV,capV,binBV,nilCheckV,bytesV,V.cells,V.stays,Orc.nothing,c112])
          exact RetV.same rfl
        · have hr : limR c = (0, MX) := by rw [limR, if_neg h1, if_neg h2, if_neg h3, if_neg h4]
          rw [hr]
          (refine Runs.of_step Orc.nothing 300 ?_; simp -implicitDefEqProofs only [BB,seval,effR_some,effD_some,← decide_not,okind,vpre,vpure,intBin,intPre,strBin,strPre,popTo,argSlots,fldV,fldAV,subCells,idxVV,idxAAV,idxSV,sliceV,sliceSV,boundV,szIs,storeOp,storeS,setRowV,eff,extV,buildV,splice,eqSV,fitsL,eqCells,eqCell,minmaxV,capV,binBV,nilCheckV,bytesV,V.cells,V.stays,Orc.nothing,c112,e1,e2,e3,e4,e5,h3,h4])
          refine Runs.pcall rfl rfl rfl (gmost_c _) ?_
          (refine Runs.of_step Orc.nothing 300 ?_; simp -implicitDefEqProofs only [BB,seval,effR_some,effD_some,← decide_not,okind,vpre,vpure,intBin,intPre,strBin,strPre,popTo,argSlots,fldV,fldAV,subCells,idxVV,idxAAV,idxSV,sliceV,sliceSV,boundV,szIs,storeOp,storeS,setRowV,eff,extV,buildV,splice,eqSV,fitsL,eqCells,eqCell,minmaxV,capV,binBV,nilCheckV,bytesV,V.cells,V.stays,Orc.nothing])
          exact RetV.same rfl
theorem ite_or {p : Prop} [Decidable p] {x r : Nat × Int × Int} {o : Option (Nat × Int × Int)} {A B : Prop} (h : (if p then some x else o) = some r) (h1 : p → x = r → A) (h2 : o = some r → B) : A ∨ B := by
  split at h
  · rename_i hp; simp only [Option.some.injEq] at h; exact .inl (h1 hp h)
  · exact .inr (h2 h)
set_option maxRecDepth 100000 in
theorem gwith_c (s : List Int) (hs : s.length = 12) (c n : Int) (kk : Nat) (a b : Int) (hc : spec c = some (kk, a, b)) : PFun Tryd.prog 114 [.agg (s.map vI), .int .u8 c, vI n] (.agg ((s.set kk n).map vI)) := fun σ => by
  refine Contract.of_runs Tryd.func114 e114 k114 (by simp [c114]) ?_
  match s, hs with
  | [x0, x1, x2, x3, x4, x5, x6, x7, x8, x9, x10, x11], _ =>
    simp only [List.map_cons,List.map_nil]
    have hcs : (c = 99 ∧ kk = 11) ∨ (c = 73 ∧ kk = 10) ∨ (c = 65 ∧ kk = 9) ∨ (c = 66 ∧ kk = 8) ∨ (c = 104 ∧ kk = 7) ∨ (c = 119 ∧ kk = 6) ∨ (c = 111 ∧ kk = 5) ∨ (c = 105 ∧ kk = 4) ∨ (c = 113 ∧ kk = 3) ∨ (c = 112 ∧ kk = 2) ∨ (c = 110 ∧ kk = 1) ∨ (c = 109 ∧ kk = 0) := by
      exact ite_or hc (fun e h => ⟨e, (Prod.mk.inj h).1.symm⟩) <| fun hc => ite_or hc (fun e h => ⟨e, (Prod.mk.inj h).1.symm⟩) <| fun hc => ite_or hc (fun e h => ⟨e, (Prod.mk.inj h).1.symm⟩) <| fun hc => ite_or hc (fun e h => ⟨e, (Prod.mk.inj h).1.symm⟩) <| fun hc => ite_or hc (fun e h => ⟨e, (Prod.mk.inj h).1.symm⟩) <| fun hc => ite_or hc (fun e h => ⟨e, (Prod.mk.inj h).1.symm⟩) <| fun hc => ite_or hc (fun e h => ⟨e, (Prod.mk.inj h).1.symm⟩) <| fun hc => ite_or hc (fun e h => ⟨e, (Prod.mk.inj h).1.symm⟩) <| fun hc => ite_or hc (fun e h => ⟨e, (Prod.mk.inj h).1.symm⟩) <| fun hc => ite_or hc (fun e h => ⟨e, (Prod.mk.inj h).1.symm⟩) <| fun hc => ite_or hc (fun e h => ⟨e, (Prod.mk.inj h).1.symm⟩) <| fun hc => by
        split at hc
        · rename_i e
          simp only [Option.some.injEq] at hc
          exact ⟨e, (Prod.mk.inj hc).1.symm⟩
        · cases hc
    clear hc
    rcases hcs with ⟨rfl, rfl⟩ | ⟨rfl, rfl⟩ | ⟨rfl, rfl⟩ | ⟨rfl, rfl⟩ | ⟨rfl, rfl⟩ | ⟨rfl, rfl⟩ | ⟨rfl, rfl⟩ | ⟨rfl, rfl⟩ | ⟨rfl, rfl⟩ | ⟨rfl, rfl⟩ | ⟨rfl, rfl⟩ | ⟨rfl, rfl⟩
    all_goals
      (refine Runs.of_step Orc.nothing 300 ?_; simp -implicitDefEqProofs only [BB,seval,← decide_not,okind,vpre,vpure,intBin,intPre,strBin,strPre,popTo,argSlots,fldV,fldAV,subCells,idxVV,idxAAV,idxSV,sliceV,sliceSV,boundV,szIs,storeOp,storeS,setRowV,eff,extV,buildV,splice,eqSV,fitsL,eqCells,eqCell,minmaxV,capV,binBV,nilCheckV,bytesV,V.cells,V.stays,Orc.nothing,c114])
      refine effR_new fun id1 σ1 s1 a1 f1 => ?_
      simp -implicitDefEqProofs only [BB,seval,← decide_not,okind,vpre,vpure,intBin,intPre,strBin,strPre,popTo,argSlots,fldV,fldAV,subCells,idxVV,idxAAV,idxSV,sliceV,sliceSV,boundV,szIs,storeOp,storeS,setRowV,eff,extV,buildV,splice,eqSV,fitsL,eqCells,eqCell,minmaxV,capV,binBV,nilCheckV,bytesV,V.cells,V.stays]
      refine effR_new fun id2 σ2 s2 a2 f2 => ?_
      have b1 := s2 _ _ a1
      have n12 := ne_new a1 f2
      simp -implicitDefEqProofs only [BB,seval,← decide_not,okind,vpre,vpure,intBin,intPre,strBin,strPre,popTo,argSlots,fldV,fldAV,subCells,idxVV,idxAAV,idxSV,sliceV,sliceSV,boundV,szIs,storeOp,storeS,setRowV,eff,extV,buildV,splice,eqSV,fitsL,eqCells,eqCell,minmaxV,capV,binBV,nilCheckV,bytesV,V.cells,V.stays,b1,a2,upd_ne n12,upd_ne n12.symm]
      exact ⟨_, σ, ((s1.trans s2).updK f1).updK (s1.none f2), Wk.refl (((s1.trans s2).updK f1).updK (s1.none f2)) _, rfl, rfl⟩
end Go.Vc
namespace Go.Vc
open Go.Proofs
def letF (told : List UInt8) (l : List Tk) : List UInt8 → Int
  | [] => 0
  | c :: cs => if signB c.toNat l then (if told.contains c then 0 else c.toNat) else letF told l cs
def letterR (told : List UInt8) (l : List Tk) : Int := letF told l lettersB
set_option maxRecDepth 100000 in
theorem gletter_c (l : List Tk) (p : Nat) (told : List UInt8) (ht : told.length ≤ 1000000) : PFun Tryd.prog 111 [encL l, vI p, .str told] (.int .u8 (letterR told (l.drop p))) := fun σ => by
  refine Contract.of_runs Tryd.func111 e111 k111 (by simp [c111]) ?_
  refine Runs.mix 10 ?_
  (refine Runs.of_step Orc.nothing 300 ?_; simp -implicitDefEqProofs only [BB,seval,effR_some,effD_some,← decide_not,okind,vpre,vpure,intBin,intPre,strBin,strPre,popTo,argSlots,fldV,fldAV,subCells,idxVV,idxAAV,idxSV,sliceV,sliceSV,boundV,szIs,storeOp,storeS,setRowV,eff,extV,buildV,splice,eqSV,fitsL,eqCells,eqCell,minmaxV,capV,binBV,nilCheckV,bytesV,V.cells,V.stays,Orc.nothing,c111])
  refine Runs.pcall rfl rfl rfl (gletters_c _) ?_
  (refine Runs.of_step Orc.nothing 300 ?_; simp -implicitDefEqProofs only [BB,seval,effR_some,effD_some,← decide_not,okind,vpre,vpure,intBin,intPre,strBin,strPre,popTo,argSlots,fldV,fldAV,subCells,idxVV,idxAAV,idxSV,sliceV,sliceSV,boundV,szIs,storeOp,storeS,setRowV,eff,extV,buildV,splice,eqSV,fitsL,eqCells,eqCell,minmaxV,capV,binBV,nilCheckV,bytesV,V.cells,V.stays,Orc.nothing])
  refine Runs.loop (fun m st => ∃ i, i ≤ 12 ∧ m = 12 - i ∧ letterR told (l.drop p) = letF told (l.drop p) (lettersB.drop i) ∧ st.σ = σ ∧ st.s 0 = encL l ∧ st.s 1 = vI p ∧ st.s 2 = .str told ∧ st.s 7 = .str lettersB ∧ st.s 8 = vI (i : Int)) 12
    ⟨0, by omega, by omega, rfl, rfl, rfl, rfl, rfl, rfl, rfl⟩ ?_
  rintro m ⟨S, σ1⟩ ⟨i, hi, rfl, hT, rfl, p0, p1, p2, p7, p8⟩
  simp only at p0 p1 p2 p7 p8
  refine Runs.mix 10 ?_
  have hll : lenV true (.str lettersB) = some (.int .i64 12) := rfl
  by_cases hlt : i < 12
  · have hlt' : ((i : Int) < 12) = True := by simp; omega
    have hx : lettersB.drop i = lettersB[i]'(by simpa [lettersB] using hlt) :: lettersB.drop (i + 1) := List.drop_eq_getElem_cons (by simpa [lettersB] using hlt)
    generalize hc : lettersB[i]'(by simpa [lettersB] using hlt) = c at *
    have hidx : idxSV (.str lettersB) (.int .i64 (i : Int)) = some (.int .u8 (c.toNat : Int)) := by
      rw [← hc]
      simp [idxSV, lettersB, hlt]
    rw [hx, letF] at hT
    (refine Runs.of_step Orc.nothing 300 ?_; simp -implicitDefEqProofs only [BB,seval,effR_some,effD_some,← decide_not,okind,vpre,vpure,intBin,intPre,strBin,strPre,popTo,argSlots,fldV,fldAV,subCells,idxVV,idxAAV,sliceV,sliceSV,boundV,szIs,storeOp,storeS,setRowV,eff,extV,buildV,splice,eqSV,fitsL,eqCells,eqCell,minmaxV,capV,binBV,nilCheckV,bytesV,V.cells,V.stays,Orc.nothing,p0,p1,p2,p7,p8,hll,hlt',hidx])
    have hc8 : c.toNat < 256 := c.toNat_lt
    refine ⟨inR_i32 (by omega) (by omega), ?_⟩
    refine Runs.pcall rfl rfl rfl (gsign_c l p c.toNat _) ?_
    have hin : inR .i64 ((i : Int) + 1) := inR_i64 (by omega) (by omega)
    cases hs : signB c.toNat (l.drop p) with
    | false =>
      rw [hs] at hT
      (refine Runs.of_step Orc.nothing 300 ?_; simp -implicitDefEqProofs only [BB,seval,effR_some,effD_some,← decide_not,okind,vpre,vpure,intBin,intPre,strBin,strPre,popTo,argSlots,fldV,fldAV,subCells,idxVV,idxAAV,idxSV,sliceV,sliceSV,boundV,szIs,storeOp,storeS,setRowV,eff,extV,buildV,splice,eqSV,fitsL,eqCells,eqCell,minmaxV,capV,binBV,nilCheckV,bytesV,V.cells,V.stays,Orc.nothing,p8,hin])
      exact ⟨12 - (i + 1), by omega, i + 1, by omega, rfl, by simpa using hT, p0, p1, p2, p7, by simp⟩
    | true =>
      rw [hs] at hT
      simp only [if_true] at hT
      (refine Runs.of_step Orc.nothing 300 ?_; simp -implicitDefEqProofs only [BB,seval,effR_some,effD_some,← decide_not,okind,vpre,vpure,intBin,intPre,strBin,strPre,popTo,argSlots,fldV,fldAV,subCells,idxVV,idxAAV,idxSV,sliceV,sliceSV,boundV,szIs,storeOp,storeS,setRowV,eff,extV,buildV,splice,eqSV,fitsL,eqCells,eqCell,minmaxV,capV,binBV,nilCheckV,bytesV,V.cells,V.stays,Orc.nothing,p0])
      refine Runs.loop (fun m st => ∃ k, k ≤ told.length ∧ m = told.length - k ∧ (∀ b ∈ told.take k, b ≠ c) ∧ st.σ = σ1 ∧ st.s 2 = .str told ∧ st.s 7 = .str lettersB ∧ st.s 8 = vI (i : Int) ∧ st.s 9 = vI (k : Int)) told.length
        ⟨0, by omega, by omega, by simp, rfl, p2, p7, p8, rfl⟩ ?_
      rintro m ⟨S2, σ2⟩ ⟨k, hk, rfl, hno, rfl, q2, q7, q8, q9⟩
      simp only at q2 q7 q8 q9
      refine Runs.mix 10 ?_
      have hlt2 : lenV true (.str told) = some (.int .i64 (told.length : Int)) := rfl
      by_cases hkl : k < told.length
      · have hk' : ((k : Int) < (told.length : Int)) = True := by simp [hkl]
        have hix : idxSV (.str told) (.int .i64 (k : Int)) = some (.int .u8 (told[k].toNat : Int)) := by simp [idxSV, hkl]
        have hin2 : inR .i64 ((k : Int) + 1) := inR_i64 (by omega) (by omega)
        by_cases hb : told[k] = c
        · have hcon : told.contains c = true := by
            rw [List.contains_iff_mem, ← hb]; exact List.getElem_mem hkl
          rw [hcon] at hT
          simp only [if_true] at hT
          (refine Runs.of_step Orc.nothing 300 ?_; simp -implicitDefEqProofs only [BB,seval,effR_some,effD_some,← decide_not,okind,vpre,vpure,intBin,intPre,strBin,strPre,popTo,argSlots,fldV,fldAV,subCells,idxVV,idxAAV,sliceV,sliceSV,boundV,szIs,storeOp,storeS,setRowV,eff,extV,buildV,splice,eqSV,fitsL,eqCells,eqCell,minmaxV,capV,binBV,nilCheckV,bytesV,V.cells,V.stays,Orc.nothing,q2,q7,q8,q9,hlt2,hk',hix,hidx,hb])
          rw [hT]
          exact RetV.same rfl
        · have hbn : ((told[k].toNat : Int) = (c.toNat : Int)) = False := by
            simp only [eq_iff_iff,iff_false]
            intro e
            exact hb (UInt8.toNat_inj.1 (by omega))
          (refine Runs.of_step Orc.nothing 300 ?_; simp -implicitDefEqProofs only [BB,seval,effR_some,effD_some,← decide_not,okind,vpre,vpure,intBin,intPre,strBin,strPre,popTo,argSlots,fldV,fldAV,subCells,idxVV,idxAAV,sliceV,sliceSV,boundV,szIs,storeOp,storeS,setRowV,eff,extV,buildV,splice,eqSV,fitsL,eqCells,eqCell,minmaxV,capV,binBV,nilCheckV,bytesV,V.cells,V.stays,Orc.nothing,q2,q7,q8,q9,hlt2,hk',hix,hidx,hbn,hin2])
          refine ⟨told.length - (k + 1), by omega, k + 1, by omega, rfl, ?_, by simp⟩
          intro b hbm
          rw [List.take_succ, List.getElem?_eq_getElem hkl] at hbm
          simp only [Option.toList_some,List.mem_append,List.mem_singleton] at hbm
          rcases hbm with h1 | h1
          · exact hno b h1
          · rw [h1]; exact hb
      · have e : k = told.length := by omega
        subst e
        have hk' : ((told.length : Int) < (told.length : Int)) = False := by simp
        have hcon : told.contains c = false := by
          rw [List.take_length] at hno
          rw [← Bool.not_eq_true, List.contains_iff_mem]
          exact fun hm => hno c hm rfl
        rw [hcon] at hT
        simp only [Bool.false_eq_true,if_false] at hT
        (refine Runs.of_step Orc.nothing 300 ?_; simp -implicitDefEqProofs only [BB,seval,effR_some,effD_some,← decide_not,okind,vpre,vpure,intBin,intPre,strBin,strPre,popTo,argSlots,fldV,fldAV,subCells,idxVV,idxAAV,sliceV,sliceSV,boundV,szIs,storeOp,storeS,setRowV,eff,extV,buildV,splice,eqSV,fitsL,eqCells,eqCell,minmaxV,capV,binBV,nilCheckV,bytesV,V.cells,V.stays,Orc.nothing,q2,q7,q8,q9,hlt2,hk',hidx])
        rw [hT]
        exact RetV.same rfl
  · have e : i = 12 := by omega
    subst e
    have hlt' : (((12 : Nat) : Int) < 12) = False := by simp
    (refine Runs.of_step Orc.nothing 300 ?_; simp -implicitDefEqProofs only [BB,seval,effR_some,effD_some,← decide_not,okind,vpre,vpure,intBin,intPre,strBin,strPre,popTo,argSlots,fldV,fldAV,subCells,idxVV,idxAAV,idxSV,sliceV,sliceSV,boundV,szIs,storeOp,storeS,setRowV,eff,extV,buildV,splice,eqSV,fitsL,eqCells,eqCell,minmaxV,capV,binBV,nilCheckV,bytesV,V.cells,V.stays,Orc.nothing,p0,p1,p2,p7,p8,hll,hlt'])
    rw [hT]
    exact RetV.same rfl
end Go.Vc
namespace Go.Vc
open Go.Proofs
abbrev GR := List Nd × Nat × Bool
def encG (r : GR) : V := .agg [encNs r.1, vI r.2.1, vI (if r.2.2 then 1 else 0)]
def tokN (l : List Tk) (p : Nat) : Int := ((l[p]?).map Tk.n).getD 0
def gboxR (l : List Tk) (p : Nat) (x : Nd) (e : Int) : GR :=
  if numB 1 MX (l.drop p) = false then ([], p, true)
  else if numB 1 MX (l.drop (p + 1)) = false then ([], p + 1, true)
  else if signB e (l.drop (p + 2)) = false then ([], p + 2, true)
  else ([{ x with w := tokN l p, h := tokN l (p + 1) }], p + 3, false)
theorem numB_lt {a b : Int} {l : List Tk} {p : Nat} (h : numB a b (l.drop p) = true) : p < l.length := by
  apply Classical.byContradiction
  intro hn
  rw [List.drop_eq_nil_of_le (by omega)] at h
  cases h
theorem retG {σ τ : Store} {p : Nat} (h : SubStore σ τ) : RetV (.agg [.nils, vI p, vI 1]) τ fun r σ' => r = encG ([], p, true) ∧ σ' = σ :=
  ⟨_, σ, h, Wk.agg (vs' := [.sl 20 [], vI p, vI 1]) (by simp only [WkL]; exact ⟨Wk.nils 20, Wk.refl h _, Wk.refl h _, trivial⟩), rfl, rfl⟩
theorem retGN {σ τ : Store} {id8 id48 : Nat} {y : Nd} {p : Nat} {a : Int} {v : V} {o : Ob} (h : SubStore σ τ) (h8 : σ id8 = none) (n : id8 ≠ id48) (a48 : τ id48 = some ⟨37, 20, [v]⟩) (f48 : σ id48 = none) (hv : v = encN y ∧ a = (p : Int)) :
    RetV (.agg [.own id48 0 1, .int .i64 a, .int .i64 0]) (upd τ id8 o) fun r σ' => r = encG ([y], p, false) ∧ σ' = σ := by
  obtain ⟨rfl, rfl⟩ := hv
  have hs : SubStore σ (upd τ id8 o) := h.updK h8
  have hown := Wk.own (off := 0) (len := 1) hs (by rw [upd_ne n.symm]; exact a48) f48 (by simp)
  exact ⟨_, σ, hs, Wk.agg (vs' := [.sl 20 [encN y], vI (p : Int), vI 0]) (by simp only [WkL]; exact ⟨hown, Wk.refl hs _, Wk.refl hs _, trivial⟩), by simp [encG, encNs], rfl⟩
set_option maxRecDepth 100000 in
theorem gbox_c (l : List Tk) (p : Nat) (x : Nd) (e : Int) (hp : p ≤ 1000000) : PFun Tryd.prog 97 [encL l, vI p, encN x, .int .i32 e] (encG (gboxR l p x e)) := fun σ => by
  refine Contract.of_runs Tryd.func97 e97 k97 (by simp [c97]) ?_
  refine Runs.mix 10 ?_
  have hcl : (encN x).cells.length = 20 := rfl
  have hst : (encN x).stays = true := rfl
  (refine Runs.of_step Orc.nothing 300 ?_; simp -implicitDefEqProofs only [BB,seval,← decide_not,okind,vpre,vpure,intBin,intPre,strBin,strPre,popTo,argSlots,fldV,fldAV,subCells,idxVV,idxAAV,idxSV,sliceV,sliceSV,boundV,szIs,storeOp,storeS,setRowV,eff,extV,buildV,splice,eqSV,fitsL,eqCells,eqCell,minmaxV,capV,binBV,nilCheckV,bytesV,V.cells,V.stays,Orc.nothing,c97,hcl,hst])
  refine effR_new fun id6 σ6 s6 a6 f6 => ?_
  simp -implicitDefEqProofs only [BB,seval,← decide_not,okind,vpre,vpure,intBin,intPre,strBin,strPre,popTo,argSlots,fldV,fldAV,subCells,idxVV,idxAAV,idxSV,sliceV,sliceSV,boundV,szIs,storeOp,storeS,setRowV,eff,extV,buildV,splice,eqSV,fitsL,eqCells,eqCell,minmaxV,capV,binBV,nilCheckV,bytesV,V.cells,V.stays]
  refine effR_new fun id8 σ8 s8 a8 f8 => ?_
  have b6 := s8 _ _ a6
  have n68 := ne_new a6 f8
  have hsub : SubStore σ σ8 := s6.trans s8
  simp -implicitDefEqProofs only [BB,seval,← decide_not,okind,vpre,vpure,intBin,intPre,strBin,strPre,popTo,argSlots,fldV,fldAV,subCells,idxVV,idxAAV,idxSV,sliceV,sliceSV,boundV,szIs,storeOp,storeS,setRowV,eff,extV,buildV,splice,eqSV,fitsL,eqCells,eqCell,minmaxV,capV,binBV,nilCheckV,bytesV,V.cells,V.stays]
  refine Runs.loop (fun m st => ∃ i, i ≤ 2 ∧ m = 2 - i ∧ (∀ j, j < i → numB 1 MX (l.drop (p + j)) = true) ∧ st.σ = σ8 ∧ st.s 0 = encL l ∧ st.s 1 = vI p ∧ st.s 3 = .int .i32 e ∧ st.s 6 = .ptr id6 0 0 ∧ st.s 8 = .ptr id8 0 0 ∧ st.s 9 = vI (i : Int)) 2
    ⟨0, by omega, by omega, fun j hj => by omega, rfl, rfl, rfl, rfl, rfl, rfl, rfl⟩ ?_
  rintro m ⟨S, σ9⟩ ⟨i, hi, rfl, hall, hσ9, p0, p1, p3, p6, p8, p9⟩
  simp only at hσ9 p0 p1 p3 p6 p8 p9
  subst hσ9
  refine Runs.mix 10 ?_
  have hin : inR .i64 ((p : Int) + (i : Int)) := inR_i64 (by omega) (by omega)
  have hin1 : inR .i64 ((i : Int) + 1) := inR_i64 (by omega) (by omega)
  have hpi : (p : Int) + (i : Int) = ((p + i : Nat) : Int) := by omega
  by_cases hlt : i < 2
  · have hlt' : ((i : Int) < 2) = True := by simp; omega
    (refine Runs.of_step Orc.nothing 300 ?_; simp -implicitDefEqProofs only [BB,seval,effR_some,effD_some,← decide_not,okind,vpre,vpure,intBin,intPre,strBin,strPre,popTo,argSlots,fldV,fldAV,subCells,idxVV,idxAAV,idxSV,sliceV,sliceSV,boundV,szIs,storeOp,storeS,setRowV,eff,extV,buildV,splice,eqSV,fitsL,eqCells,eqCell,minmaxV,capV,binBV,nilCheckV,bytesV,V.cells,V.stays,Orc.nothing,p0,p1,p3,p6,p8,p9,hlt',hin])
    refine Runs.pcall rfl rfl rfl (gmost_c _) ?_
    rw [hpi]
    (refine Runs.of_step Orc.nothing 300 ?_; simp -implicitDefEqProofs only [BB,seval,effR_some,effD_some,← decide_not,okind,vpre,vpure,intBin,intPre,strBin,strPre,popTo,argSlots,fldV,fldAV,subCells,idxVV,idxAAV,idxSV,sliceV,sliceSV,boundV,szIs,storeOp,storeS,setRowV,eff,extV,buildV,splice,eqSV,fitsL,eqCells,eqCell,minmaxV,capV,binBV,nilCheckV,bytesV,V.cells,V.stays,Orc.nothing])
    refine Runs.pcall rfl rfl rfl (gnum_c l (p + i) 1 MX _) ?_
    cases hn : numB 1 MX (l.drop (p + i)) with
    | false =>
      have hr : gboxR l p x e = ([], p + i, true) := by
        unfold gboxR
        match i, hlt with
        | 0, _ => exact if_pos hn
        | 1, _ => rw [if_neg (by rw [show l.drop p = l.drop (p + 0) from rfl, hall 0 (by omega)]; simp), if_pos hn]
      rw [hr]
      (refine Runs.of_step Orc.nothing 300 ?_; simp -implicitDefEqProofs only [BB,seval,effR_some,effD_some,← decide_not,okind,vpre,vpure,intBin,intPre,strBin,strPre,popTo,argSlots,fldV,fldAV,subCells,idxVV,idxAAV,idxSV,sliceV,sliceSV,boundV,szIs,storeOp,storeS,setRowV,eff,extV,buildV,splice,eqSV,fitsL,eqCells,eqCell,minmaxV,capV,binBV,nilCheckV,bytesV,V.cells,V.stays,Orc.nothing,p1,p8,p9,hin,a8])
      rw [hpi]
      exact retG (hsub.updK (s6.none f8))
    | true =>
      (refine Runs.of_step Orc.nothing 300 ?_; simp -implicitDefEqProofs only [BB,seval,effR_some,effD_some,← decide_not,okind,vpre,vpure,intBin,intPre,strBin,strPre,popTo,argSlots,fldV,fldAV,subCells,idxVV,idxAAV,idxSV,sliceV,sliceSV,boundV,szIs,storeOp,storeS,setRowV,eff,extV,buildV,splice,eqSV,fitsL,eqCells,eqCell,minmaxV,capV,binBV,nilCheckV,bytesV,V.cells,V.stays,Orc.nothing,p9,hin1])
      refine ⟨2 - (i + 1), by omega, i + 1, by omega, rfl, ?_⟩
      refine ⟨fun j hj => ?_, p0, p1, p3, p6, p8, by simp⟩
      by_cases hji : j = i
      · subst hji; exact hn
      · exact hall j (by omega)
  · have e : i = 2 := by omega
    subst e
    have hlt' : (((2 : Nat) : Int) < 2) = False := by simp
    have n0 := hall 0 (by omega)
    have n1 := hall 1 (by omega)
    rw [Nat.add_zero] at n0
    have hi1 : inR .i64 ((p : Int) + 1) := inR_i64 (by omega) (by omega)
    have hi2 : inR .i64 ((p : Int) + 2) := inR_i64 (by omega) (by omega)
    have hi3 : inR .i64 ((p : Int) + 3) := inR_i64 (by omega) (by omega)
    have e2 : (p : Int) + 2 = ((p + 2 : Nat) : Int) := by omega
    (refine Runs.of_step Orc.nothing 300 ?_; simp -implicitDefEqProofs only [BB,seval,effR_some,effD_some,← decide_not,okind,vpre,vpure,intBin,intPre,strBin,strPre,popTo,argSlots,fldV,fldAV,subCells,idxVV,idxAAV,idxSV,sliceV,sliceSV,boundV,szIs,storeOp,storeS,setRowV,eff,extV,buildV,splice,eqSV,fitsL,eqCells,eqCell,minmaxV,capV,binBV,nilCheckV,bytesV,V.cells,V.stays,Orc.nothing,p0,p1,p3,p6,p8,p9,hlt',hi2])
    rw [e2]
    refine Runs.pcall rfl rfl rfl (gsign_c l (p + 2) e _) ?_
    cases hs : signB e (l.drop (p + 2)) with
    | false =>
      have hr : gboxR l p x e = ([], p + 2, true) := by
        unfold gboxR
        rw [if_neg (by rw [n0]; simp), if_neg (by rw [n1]; simp), if_pos hs]
      rw [hr]
      (refine Runs.of_step Orc.nothing 300 ?_; simp -implicitDefEqProofs only [BB,seval,effR_some,effD_some,← decide_not,okind,vpre,vpure,intBin,intPre,strBin,strPre,popTo,argSlots,fldV,fldAV,subCells,idxVV,idxAAV,idxSV,sliceV,sliceSV,boundV,szIs,storeOp,storeS,setRowV,eff,extV,buildV,splice,eqSV,fitsL,eqCells,eqCell,minmaxV,capV,binBV,nilCheckV,bytesV,V.cells,V.stays,Orc.nothing,p1,p8,hi2,a8])
      rw [e2]
      exact retG (hsub.updK (s6.none f8))
    | true =>
      have hr : gboxR l p x e = ([{ x with w := tokN l p, h := tokN l (p + 1) }], p + 3, false) := by
        unfold gboxR
        rw [if_neg (by rw [n0]; simp), if_neg (by rw [n1]; simp), if_neg (by rw [hs]; simp)]
      rw [hr]
      have q0 := numB_lt n0
      have q1 := numB_lt n1
      have hx0 := fun σ => idxT σ q0
      have hx1 := fun σ => idxT σ q1
      have e1 : ((p + 1 : Nat) : Int) = (p : Int) + 1 := by omega
      rw [e1] at hx1
      have t0 : tokN l p = l[p].n := by simp [tokN, q0]
      have t1 : tokN l (p + 1) = l[p + 1].n := by simp [tokN, q1]
      rw [t0, t1]
      simp only [encN,Nd.cells] at b6
      (refine Runs.of_step Orc.nothing 300 ?_; simp -implicitDefEqProofs only [BB,seval,← decide_not,okind,vpre,vpure,intBin,intPre,strBin,strPre,popTo,argSlots,fldV,fldAV,subCells,idxVV,idxAAV,idxSV,sliceV,sliceSV,boundV,szIs,storeOp,storeS,setRowV,eff,extV,buildV,splice,eqSV,fitsL,eqCells,eqCell,minmaxV,capV,binBV,nilCheckV,bytesV,V.cells,V.stays,Orc.nothing,p0,p1,p6,p8,hx0,hx1,hi1,b6,a8,upd_ne n68,upd_ne n68.symm])
      refine effR_new fun id48 σ10 s10 a10 f10 => ?_
      have c8 := s10 id8 _ (by rw [upd_ne n68.symm]; exact a8)
      have n48 : id8 ≠ id48 := ne_new (show upd σ9 id6 _ id8 = some _ by rw [upd_ne n68.symm]; exact a8) f10
      simp -implicitDefEqProofs only [BB,seval,← decide_not,okind,vpre,vpure,intBin,intPre,strBin,strPre,popTo,argSlots,fldV,fldAV,subCells,idxVV,idxAAV,idxSV,sliceV,sliceSV,boundV,szIs,storeOp,storeS,setRowV,eff,extV,buildV,splice,eqSV,fitsL,eqCells,eqCell,minmaxV,capV,binBV,nilCheckV,bytesV,V.cells,V.stays,p1,p8,hi3,c8]
      have hz := SubStore.trans (SubStore.updK hsub f6) s10
      have hf := (SubStore.updK hsub f6).none f10
      exact retGN hz (s6.none f8) n48 a10 hf ⟨by simp [encN, Nd.cells], by omega⟩
end Go.Vc
namespace Go.Vc
theorem count_yes {a b : Int} {l : List Tk} {p : Nat} (h : numB a b (l.drop p) = true) : countR a b (l.drop p) false = (tokN l p, l.drop (p + 1), false) := by
  have hp := numB_lt h
  have ht : tokN l p = l[p].n := by simp [tokN, hp]
  rw [List.drop_eq_getElem_cons hp] at h ⊢
  rw [ht]
  simp only [countR,h,Bool.not_true,Bool.or_self,Bool.false_eq_true,if_false]
theorem count_no {a b : Int} {l : List Tk} (h : numB a b l = false) : (countR a b l false).2 = (l, true) := by
  cases l with
  | nil => rfl
  | cons t r => simp [countR, h]
theorem count_w (a b : Int) (l : List Tk) : (countR a b l true).2 = (l, true) := by
  cases l with
  | nil => rfl
  | cons t r => simp [countR]
theorem take_w (c : Int) (l : List Tk) : takeR c l true = (l, true) := by simp [takeR]
theorem take_no {c : Int} {l : List Tk} (h : signB c l = false) : takeR c l false = (l, true) := by simp [takeR, h]
theorem signB_lt {c : Int} {l : List Tk} {p : Nat} (h : signB c (l.drop p) = true) : p < l.length := by
  apply Classical.byContradiction
  intro hn
  rw [List.drop_eq_nil_of_le (by omega)] at h
  cases h
theorem take_yes {c : Int} {l : List Tk} {p : Nat} (h : signB c (l.drop p) = true) : takeR c (l.drop p) false = (l.drop (p + 1), false) := by
  simp [takeR, h]
theorem gbox_eq (l : List Tk) (p : Nat) (x : Nd) (e : Int) (hp : p ≤ l.length) : gboxR l p x e =
    if (boxR e (l.drop p) false).2.2.2 then ([], l.length - (boxR e (l.drop p) false).2.2.1.length, true)
    else ([{ x with w := (boxR e (l.drop p) false).1, h := (boxR e (l.drop p) false).2.1 }], l.length - (boxR e (l.drop p) false).2.2.1.length, false) := by
  have hb : boxR e (l.drop p) false = ((countR 1 MX (l.drop p) false).1, (countR 1 MX (countR 1 MX (l.drop p) false).2.1 (countR 1 MX (l.drop p) false).2.2).1,
    takeR e (countR 1 MX (countR 1 MX (l.drop p) false).2.1 (countR 1 MX (l.drop p) false).2.2).2.1 (countR 1 MX (countR 1 MX (l.drop p) false).2.1 (countR 1 MX (l.drop p) false).2.2).2.2) := rfl
  unfold gboxR
  cases h0 : numB 1 MX (l.drop p) with
  | false =>
    rw [if_pos rfl, hb, count_no h0]
    simp only [count_w,take_w,if_true,List.length_drop]
    congr 2; omega
  | true =>
    have q0 := numB_lt h0
    rw [if_neg (by simp), hb, count_yes h0]
    simp only
    cases h1 : numB 1 MX (l.drop (p + 1)) with
    | false =>
      rw [if_pos rfl, count_no h1]
      simp only [take_w,if_true,List.length_drop]
      congr 2; omega
    | true =>
      have q1 := numB_lt h1
      rw [if_neg (by simp), count_yes h1]
      simp only
      cases h2 : signB e (l.drop (p + 2)) with
      | false =>
        rw [if_pos rfl, take_no h2]
        simp only [if_true,List.length_drop]
        congr 2; omega
      | true =>
        have q2 := signB_lt h2
        rw [if_neg (by simp), take_yes h2]
        simp only [Bool.false_eq_true,if_false,List.length_drop]
        congr 2; omega
end Go.Vc
namespace Go.Vc
open Go.Proofs
theorem FzL.same {σ : Store} {N : Nat → Prop} : ∀ (vs : List V), noidL vs = true → FzL σ N vs vs
  | [], _ => .nil
  | v :: vs, h => by
    simp only [noidL,Bool.and_eq_true] at h
    exact .cons _ _ _ _ (.same v h.1) (FzL.same vs h.2)
theorem FzL.app {σ : Store} {N : Nat → Prop} : ∀ {a b c d : List V}, FzL σ N a b → FzL σ N c d → FzL σ N (a ++ c) (b ++ d)
  | _, _, _, _, .nil, h => h
  | _, _, _, _, .cons v u vs us h h', h2 => .cons v u _ _ h (FzL.app h' h2)
theorem FzL.one {σ : Store} {N : Nat → Prop} {v u : V} (h : Fz σ N v u) : FzL σ N [v] [u] := .cons _ _ _ _ h .nil
theorem OutV.fz {K σ : Store} {N : Nat → Prop} {e sz : Nat} {v : V} {rows : List V} (h : OutV K σ e sz v rows) (hN : ∀ id, K id = none → N id) (hr : noidL rows = true) : Fz σ N v (.sl sz rows) := by
  rcases h with ⟨rfl, rfl⟩ | ⟨id, rfl, ho, hk⟩
  · exact .nil sz
  · exact .own id 0 rows.length ⟨e, sz, rows⟩ rows ho (hN id hk) (by simp) (by rw [List.drop_zero, List.take_length]; exact FzL.same rows hr)
theorem OutV.upd_ne {K σ : Store} {e sz : Nat} {v : V} {rows : List V} (h : OutV K σ e sz v rows) {id : Nat} {o : Ob} (hK : K id ≠ none) : OutV K (upd σ id o) e sz v rows := by
  rcases h with h | ⟨q, h1, h2, h3⟩
  · exact .inl h
  · have : q ≠ id := fun e => hK (by rw [← e]; exact h3)
    exact .inr ⟨q, h1, by rw [Vc.upd_ne this]; exact h2, h3⟩
theorem noid_ints (l : List Int) : noidL (l.map vI) = true := by
  induction l with
  | nil => rfl
  | cons x l ih => rw [List.map_cons, noidL, ih]; rfl
abbrev ndPre (x : Nd) : List V := [vI x.kind, vI x.size, vI x.st.top, vI x.st.bottom, vI x.st.padTop, vI x.st.padBottom, vI x.st.inset, vI x.st.orphans, vI x.st.widows, vI x.st.head, vI x.st.before, vI x.st.after, vI x.st.inside, vI x.st.clear, vI x.line, vI x.space]
def ndW (x : Nd) (v : V) : V := .agg [vI x.kind, vI x.size, vI x.st.top, vI x.st.bottom, vI x.st.padTop, vI x.st.padBottom, vI x.st.inset, vI x.st.orphans, vI x.st.widows, vI x.st.head, vI x.st.before, vI x.st.after, vI x.st.inside, vI x.st.clear, vI x.line, vI x.space, v, vI x.side, vI x.w, vI x.h]
theorem fz_nd {σ : Store} {N : Nat → Prop} {x : Nd} {v : V} (h : Fz σ N v (encI x.words)) : Fz σ N (ndW x v) (encN x) := by
  refine .agg _ _ ?_
  exact (FzL.same (ndPre x) rfl).app ((FzL.one h).app (FzL.same [vI x.side, vI x.w, vI x.h] rfl))
theorem retGT {K σ τ : Store} {id : Nat} {x : Nd} {p : Nat} {a : Int} {v : V} (h : SubStore σ τ) (hid : τ id = some ⟨37, 20, [ndW x v]⟩) (hn : σ id = none) (ho : OutV K τ 3 1 v (x.words.map vI)) (hK : SubStore σ K) (ha : a = (p : Int)) :
    RetV (.agg [.own id 0 1, .int .i64 a, .int .i64 0]) τ fun r σ' => r = encG ([x], p, false) ∧ σ' = σ := by
  subst ha
  refine ⟨_, σ, h, (Fz.agg _ _ (.cons _ _ _ _ (.own id 0 1 _ [encN x] hid (show σ id = none from hn) (by simp) (FzL.one (fz_nd (ho.fz (N := fun id => σ id = none) (fun id hk => hK.none hk) (noid_ints _))))) (FzL.same [vI (p : Int), vI 0] rfl)) : Fz τ (fun id => σ id = none) _ _).wk h (fun _ h => h), rfl, rfl⟩
def txtN (l : List Tk) (p : Nat) (ws : List Int) : Nd := ⟨2, 1, Sty.zero, tokN l (p + 1), tokN l (p + 2), ws, 0, 0, 0⟩
def gtextR (l : List Tk) (p : Nat) : GR :=
  if numB 1 MX (l.drop (p + 1)) = false then ([], p + 1, true)
  else if numB 0 MX (l.drop (p + 2)) = false then ([], p + 2, true)
  else if (numsR (l.drop (p + 3))).1 = [] ∨ signB 41 (l.drop (p + 3 + (numsR (l.drop (p + 3))).1.length)) = false then ([], p + 3 + (numsR (l.drop (p + 3))).1.length, true)
  else ([txtN l p (numsR (l.drop (p + 3))).1], p + 3 + (numsR (l.drop (p + 3))).1.length + 1, false)
structure XInv (K σ : Store) (id5 : Nat) (x : Nd) (v : V) : Prop where
  off : Off id5 K σ
  r5 : σ id5 = some ⟨37, 20, [ndW x v]⟩
  out : OutV K σ 3 1 v (x.words.map vI)
theorem XInv.push {K σ σ1 σ2 : Store} {id5 i2 : Nat} {x : Nd} {v : V} {n : Int} {idA : Option Nat} (inv : XInv K σ id5 x v) (hK : K id5 ≠ none) (s1 : SubStore σ σ1) (hA : ∀ i, idA = some i → K i = none ∧ ∃ o, σ i = some o)
    (s2 : SubStore (delO σ1 idA) σ2) (a2 : σ2 i2 = some ⟨3, 1, x.words.map vI ++ [vI n]⟩) (f2 : σ1 i2 = none) :
    XInv K (upd σ2 id5 ⟨37, 20, [ndW { x with words := x.words ++ [n] } (.own i2 0 (x.words.length + 1))]⟩) id5 { x with words := x.words ++ [n] } (.own i2 0 (x.words.length + 1)) where
  off := Off.upd fun q hq o ho => keepA hA s2 q o (by rw [ho]; simp) (s1 _ _ (inv.off q hq o ho))
  r5 := upd_same
  out := by
    have f : σ i2 = none := s1.none f2
    have hne : i2 ≠ id5 := fun e => by rw [e, inv.r5] at f; cases f
    refine OutV.new (by simp) (by rw [upd_ne hne, a2]; simp) ?_
    exact inv.off.none inv.r5 f
theorem xstore {σ : Store} {id5 : Nat} {x : Nd} {v w : V} {y : Nd} (h : σ id5 = some ⟨37, 20, [ndW x v]⟩) (hw : w.cells = [w]) (hs : w.stays = true) (hy : ndW y w = ndW x w) : storeS σ 1 (.ptr id5 0 16) w = some (upd σ id5 ⟨37, 20, [ndW y w]⟩) := by
  rw [hy]
  simp only [storeS,h,List.getElem?_cons_zero,ndW]
  have : setRowV (.agg [vI x.kind, vI x.size, vI x.st.top, vI x.st.bottom, vI x.st.padTop, vI x.st.padBottom, vI x.st.inset, vI x.st.orphans, vI x.st.widows, vI x.st.head, vI x.st.before, vI x.st.after, vI x.st.inside, vI x.st.clear, vI x.line, vI x.space, v, vI x.side, vI x.w, vI x.h]) 16 1 w =
      some (.agg [vI x.kind, vI x.size, vI x.st.top, vI x.st.bottom, vI x.st.padTop, vI x.st.padBottom, vI x.st.inset, vI x.st.orphans, vI x.st.widows, vI x.st.head, vI x.st.before, vI x.st.after, vI x.st.inside, vI x.st.clear, vI x.line, vI x.space, w, vI x.side, vI x.w, vI x.h]) := by
    unfold setRowV
    rw [if_pos ⟨by rw [hw]; rfl, hs⟩, if_neg (by simp), if_pos (by simp [V.cells])]
    rw [hw]
    rfl
  rw [this]
  rfl
theorem xload {σ : Store} {id5 : Nat} {x : Nd} {v : V} (h : σ id5 = some ⟨37, 20, [ndW x v]⟩) : loadV σ false 1 (.ptr id5 0 16) = some v := by
  simp [loadV, h, ndW, V.cells]
theorem xall {σ : Store} {id5 : Nat} {x : Nd} {v : V} (h : σ id5 = some ⟨37, 20, [ndW x v]⟩) : loadV σ true 20 (.ptr id5 0 0) = some (ndW x v) := by
  simp [loadV, h, ndW, V.cells]
theorem ndW_cells (x : Nd) (v : V) : (ndW x v).cells.length = 20 := rfl
theorem ndW_stays (x : Nd) (v : V) : (ndW x v).stays = true := rfl
set_option maxRecDepth 100000 in
theorem gtext_c (l : List Tk) (p : Nat) (hp : p ≤ 1000000) (hl : l.length ≤ 1000000) : PFun Tryd.prog 96 [encL l, vI p] (encG (gtextR l p)) := fun σ => by
  refine Contract.of_runs Tryd.func96 e96 k96 (by simp [c96]) ?_
  refine Runs.mix 7 ?_
  have hi1 : inR .i64 ((p : Int) + 1) := inR_i64 (by omega) (by omega)
  have hi2 : inR .i64 ((p : Int) + 2) := inR_i64 (by omega) (by omega)
  have hi3 : inR .i64 ((p : Int) + 3) := inR_i64 (by omega) (by omega)
  have e1 : (p : Int) + 1 = ((p + 1 : Nat) : Int) := by omega
  have e2 : (p : Int) + 2 = ((p + 2 : Nat) : Int) := by omega
  have e3 : (p : Int) + 3 = ((p + 3 : Nat) : Int) := by omega
  (refine Runs.of_step Orc.nothing 300 ?_; simp -implicitDefEqProofs only [BB,seval,← decide_not,okind,vpre,vpure,intBin,intPre,strBin,strPre,popTo,argSlots,fldV,fldAV,subCells,idxVV,idxAAV,idxSV,sliceV,sliceSV,boundV,szIs,storeOp,storeS,setRowV,eff,extV,buildV,splice,eqSV,fitsL,eqCells,eqCell,minmaxV,capV,binBV,nilCheckV,bytesV,V.cells,V.stays,Orc.nothing,c96])
  refine effR_new fun id4 σ4 s4 a4 f4 => ?_
  simp -implicitDefEqProofs only [BB,seval,← decide_not,okind,vpre,vpure,intBin,intPre,strBin,strPre,popTo,argSlots,fldV,fldAV,subCells,idxVV,idxAAV,idxSV,sliceV,sliceSV,boundV,szIs,storeOp,storeS,setRowV,eff,extV,buildV,splice,eqSV,fitsL,eqCells,eqCell,minmaxV,capV,binBV,nilCheckV,bytesV,V.cells,V.stays,hi1]
  refine Runs.pcall rfl rfl rfl (gmost_c _) ?_
  rw [e1]
  (refine Runs.of_step Orc.nothing 300 ?_; simp -implicitDefEqProofs only [BB,seval,effR_some,effD_some,← decide_not,okind,vpre,vpure,intBin,intPre,strBin,strPre,popTo,argSlots,fldV,fldAV,subCells,idxVV,idxAAV,idxSV,sliceV,sliceSV,boundV,szIs,storeOp,storeS,setRowV,eff,extV,buildV,splice,eqSV,fitsL,eqCells,eqCell,minmaxV,capV,binBV,nilCheckV,bytesV,V.cells,V.stays,Orc.nothing])
  refine Runs.pcall rfl rfl rfl (gnum_c l (p + 1) 1 MX _) ?_
  cases h1 : numB 1 MX (l.drop (p + 1)) with
  | false =>
    have hr : gtextR l p = ([], p + 1, true) := by rw [gtextR, if_pos h1]
    rw [hr]
    (refine Runs.of_step Orc.nothing 300 ?_; simp -implicitDefEqProofs only [BB,seval,effR_some,effD_some,← decide_not,okind,vpre,vpure,intBin,intPre,strBin,strPre,popTo,argSlots,fldV,fldAV,subCells,idxVV,idxAAV,idxSV,sliceV,sliceSV,boundV,szIs,storeOp,storeS,setRowV,eff,extV,buildV,splice,eqSV,fitsL,eqCells,eqCell,minmaxV,capV,binBV,nilCheckV,bytesV,V.cells,V.stays,Orc.nothing,hi1,a4])
    rw [e1]
    exact retG (s4.updK f4)
  | true =>
    (refine Runs.of_step Orc.nothing 300 ?_; simp -implicitDefEqProofs only [BB,seval,effR_some,effD_some,← decide_not,okind,vpre,vpure,intBin,intPre,strBin,strPre,popTo,argSlots,fldV,fldAV,subCells,idxVV,idxAAV,idxSV,sliceV,sliceSV,boundV,szIs,storeOp,storeS,setRowV,eff,extV,buildV,splice,eqSV,fitsL,eqCells,eqCell,minmaxV,capV,binBV,nilCheckV,bytesV,V.cells,V.stays,Orc.nothing,hi2])
    refine Runs.pcall rfl rfl rfl (gmost_c _) ?_
    rw [e2]
    (refine Runs.of_step Orc.nothing 300 ?_; simp -implicitDefEqProofs only [BB,seval,effR_some,effD_some,← decide_not,okind,vpre,vpure,intBin,intPre,strBin,strPre,popTo,argSlots,fldV,fldAV,subCells,idxVV,idxAAV,idxSV,sliceV,sliceSV,boundV,szIs,storeOp,storeS,setRowV,eff,extV,buildV,splice,eqSV,fitsL,eqCells,eqCell,minmaxV,capV,binBV,nilCheckV,bytesV,V.cells,V.stays,Orc.nothing])
    refine Runs.pcall rfl rfl rfl (gnum_c l (p + 2) 0 MX _) ?_
    cases h2 : numB 0 MX (l.drop (p + 2)) with
    | false =>
      have hr : gtextR l p = ([], p + 2, true) := by rw [gtextR, if_neg (by simp [h1]), if_pos h2]
      rw [hr]
      (refine Runs.of_step Orc.nothing 300 ?_; simp -implicitDefEqProofs only [BB,seval,effR_some,effD_some,← decide_not,okind,vpre,vpure,intBin,intPre,strBin,strPre,popTo,argSlots,fldV,fldAV,subCells,idxVV,idxAAV,idxSV,sliceV,sliceSV,boundV,szIs,storeOp,storeS,setRowV,eff,extV,buildV,splice,eqSV,fitsL,eqCells,eqCell,minmaxV,capV,binBV,nilCheckV,bytesV,V.cells,V.stays,Orc.nothing,hi2,a4])
      rw [e2]
      exact retG (s4.updK f4)
    | true =>
      have q1 := numB_lt h1
      have q2 := numB_lt h2
      have hx1 := fun σ => idxT σ q1
      have hx2 := fun σ => idxT σ q2
      rw [← e1] at hx1
      rw [← e2] at hx2
      have t1 : tokN l (p + 1) = l[p + 1].n := by simp [tokN, q1]
      have t2 : tokN l (p + 2) = l[p + 2].n := by simp [tokN, q2]
      (refine Runs.of_step Orc.nothing 300 ?_; simp -implicitDefEqProofs only [BB,seval,← decide_not,okind,vpre,vpure,intBin,intPre,strBin,strPre,popTo,argSlots,fldV,fldAV,subCells,idxVV,idxAAV,idxSV,sliceV,sliceSV,boundV,szIs,storeOp,storeS,setRowV,eff,extV,buildV,splice,eqSV,fitsL,eqCells,eqCell,minmaxV,capV,binBV,nilCheckV,bytesV,V.cells,V.stays,Orc.nothing,hi1,hi2,hx1,hx2])
      refine effD_new fun id5 σ5 s5 a5 f5 => ?_
      simp -implicitDefEqProofs only [BB,seval,← decide_not,okind,vpre,vpure,intBin,intPre,strBin,strPre,popTo,argSlots,fldV,fldAV,subCells,idxVV,idxAAV,idxSV,sliceV,sliceSV,boundV,szIs,storeOp,storeS,setRowV,eff,extV,buildV,splice,eqSV,fitsL,eqCells,eqCell,minmaxV,capV,binBV,nilCheckV,bytesV,V.cells,V.stays,hi3,a5]
      have hsub5 : SubStore σ (upd σ5 id5 ⟨37, 20, [ndW (txtN l p []) .nils]⟩) := (s4.trans s5).updK (s4.none f5)
      have hK5 : upd σ5 id5 ⟨37, 20, [ndW (txtN l p []) .nils]⟩ id5 ≠ none := by rw [upd_same]; simp
      have b4 : upd σ5 id5 ⟨37, 20, [ndW (txtN l p []) .nils]⟩ id4 = some ⟨64, 3, [.agg [.nils, vI 0, vI 0]]⟩ := by rw [upd_ne (ne_new a4 f5)]; exact s5 _ _ a4
      have n45 : id4 ≠ id5 := ne_new a4 f5
      have inv0 : XInv (upd σ5 id5 ⟨37, 20, [ndW (txtN l p []) .nils]⟩) (upd σ5 id5 ⟨37, 20, [ndW (txtN l p []) .nils]⟩) id5 (txtN l p []) .nils := ⟨Off.refl _ _, upd_same, OutV.start⟩
      have hσe : upd σ5 id5 ⟨37, 20, [.agg [.int .i64 2, .int .i64 1, .int .i64 0, .int .i64 0, .int .i64 0, .int .i64 0, .int .i64 0, .int .i64 0, .int .i64 0, .int .i64 0, .int .i64 0, .int .i64 0, .int .i64 0, .int .i64 0, vI l[p + 1].n, vI l[p + 2].n, .nils, .int .i64 0, .int .i64 0, .int .i64 0]]⟩ = upd σ5 id5 ⟨37, 20, [ndW (txtN l p []) .nils]⟩ := by
        rw [← t1, ← t2]; rfl
      rw [hσe]
      clear hσe
      generalize upd σ5 id5 ⟨37, 20, [ndW (txtN l p []) .nils]⟩ = K at *
      refine Runs.loop (fun m st => ∃ ws : List Int, m = (l.drop (p + 3 + ws.length)).length ∧ ((numsR (l.drop (p + 3))).1 = ws ++ (numsR (l.drop (p + 3 + ws.length))).1) ∧ p + 3 + ws.length ≤ max (p + 3) l.length ∧
        (∃ v, XInv K st.σ id5 (txtN l p ws) v) ∧ st.s 0 = encL l ∧ st.s 1 = vI p ∧ st.s 4 = .ptr id4 0 0 ∧ st.s 5 = .ptr id5 0 0 ∧ st.s 6 = vI ((p + 3 + ws.length : Nat) : Int)) (l.drop (p + 3)).length
        ⟨[], rfl, rfl, by simp only [List.length_nil]; omega, ⟨_, inv0⟩, rfl, rfl, rfl, rfl, by show V.int .i64 _ = V.int .i64 _; congr 1⟩ ?_
      rintro m ⟨S, σc⟩ ⟨ws, rfl, hws, hbd, ⟨v, inv⟩, p0, p1, p4, p5, p6⟩
      simp only at inv p0 p1 p4 p5 p6
      refine Runs.mix 7 ?_
      (refine Runs.of_step Orc.nothing 300 ?_; simp -implicitDefEqProofs only [BB,seval,effR_some,effD_some,← decide_not,okind,vpre,vpure,intBin,intPre,strBin,strPre,popTo,argSlots,fldV,fldAV,subCells,idxVV,idxAAV,idxSV,sliceV,sliceSV,boundV,szIs,storeOp,storeS,setRowV,eff,extV,buildV,splice,eqSV,fitsL,eqCells,eqCell,minmaxV,capV,binBV,nilCheckV,bytesV,V.cells,V.stays,Orc.nothing,p0,p1,p4,p5,p6])
      refine Runs.pcall rfl rfl rfl (gmost_c _) ?_
      (refine Runs.of_step Orc.nothing 300 ?_; simp -implicitDefEqProofs only [BB,seval,effR_some,effD_some,← decide_not,okind,vpre,vpure,intBin,intPre,strBin,strPre,popTo,argSlots,fldV,fldAV,subCells,idxVV,idxAAV,idxSV,sliceV,sliceSV,boundV,szIs,storeOp,storeS,setRowV,eff,extV,buildV,splice,eqSV,fitsL,eqCells,eqCell,minmaxV,capV,binBV,nilCheckV,bytesV,V.cells,V.stays,Orc.nothing])
      refine Runs.pcall rfl rfl rfl (gnum_c l _ 1 MX _) ?_
      have r5 := inv.r5
      have hout := inv.out
      have hv1 := fun σx (s : SubStore σc σx) => xload (s _ _ r5)
      cases hn : numB 1 MX (l.drop (p + 3 + ws.length)) with
      | true =>
        have qk := numB_lt hn
        have hxk := fun σ => idxT σ qk
        have hdk := List.drop_eq_getElem_cons qk
        have hin : inR .i64 (((p + 3 + ws.length : Nat) : Int) + 1) := inR_i64 (by omega) (by omega)
        have hnr : numsR (l.drop (p + 3 + ws.length)) = (l[p + 3 + ws.length].n :: (numsR (l.drop (p + 3 + ws.length + 1))).1, (numsR (l.drop (p + 3 + ws.length + 1))).2) := by
          rw [hdk] at hn ⊢
          rw [numsR, if_pos hn]
        generalize l[p + 3 + ws.length] = t at *
        have hv0 := hv1 _ (SubStore.refl _)
        (refine Runs.of_step Orc.nothing 300 ?_; simp -implicitDefEqProofs only [BB,seval,← decide_not,okind,vpre,vpure,intBin,intPre,strBin,strPre,popTo,argSlots,fldV,fldAV,subCells,idxVV,idxAAV,idxSV,sliceV,sliceSV,boundV,szIs,storeOp,storeS,setRowV,eff,extV,buildV,splice,eqSV,fitsL,eqCells,eqCell,minmaxV,capV,binBV,nilCheckV,bytesV,V.cells,V.stays,Orc.nothing,p0,p5,p6,hxk,hv0])
        refine effD_new fun id51 σ51 s51 a51 f51 => ?_
        obtain ⟨idA, hda, hdA⟩ := hout.dst' s51
        have hwl : (txtN l p ws).words.length = ws.length := rfl
        have hbw : (ws.length + 1) * 9 ≤ 140737488355328 := by omega
        simp -implicitDefEqProofs only [BB,seval,← decide_not,okind,vpre,vpure,intBin,intPre,strBin,strPre,popTo,argSlots,fldV,fldAV,subCells,idxVV,idxAAV,idxSV,sliceV,sliceSV,boundV,szIs,storeOp,storeS,setRowV,eff,extV,buildV,splice,eqSV,fitsL,eqCells,eqCell,minmaxV,capV,binBV,nilCheckV,bytesV,V.cells,V.stays,hda,srcOne a51,List.length_map,hwl,hbw]
        refine effD_put fun id52 σ52 s52 a52 f52 => ?_
        have a52' : σ52 id52 = some ⟨3, 1, (txtN l p ws).words.map vI ++ [vI t.n]⟩ := a52
        have r52 : σ52 id5 = some ⟨37, 20, [ndW (txtN l p ws) v]⟩ := keepA hdA s52 id5 _ hK5 (s51 _ _ r5)
        have hst := xstore (y := txtN l p (ws ++ [t.n])) (w := .own id52 0 (ws.length + 1)) r52 rfl rfl rfl
        simp -implicitDefEqProofs only [BB,seval,← decide_not,okind,vpre,vpure,intBin,intPre,strBin,strPre,popTo,argSlots,fldV,fldAV,subCells,idxVV,idxAAV,idxSV,sliceV,sliceSV,boundV,szIs,storeOp,setRowV,eff,extV,buildV,splice,eqSV,fitsL,eqCells,eqCell,minmaxV,capV,binBV,nilCheckV,bytesV,V.cells,V.stays,p5,p6,hst,hin]
        have hpush := inv.push hK5 s51 hdA s52 a52' f52
        refine ⟨(l.drop (p + 3 + (ws.length + 1))).length, by simp only [List.length_drop]; omega, ws ++ [t.n], by simp, ?_⟩
        refine ⟨by rw [hws, hnr]; simp [Nat.add_assoc], by simp only [List.length_append,List.length_cons,List.length_nil]; omega, ⟨_, hpush⟩, p0, p1, p4, ?_⟩
        show V.int .i64 _ = V.int .i64 _
        congr 1
        simp only [List.length_append,List.length_cons,List.length_nil]; omega
      | false =>
        have hws' : (numsR (l.drop (p + 3))).1 = ws := by rw [hws, numsR_no hn, List.append_nil]
        have hv0 := hv1 _ (SubStore.refl _)
        have hlen := hout.len
        have hwl : (((txtN l p ws).words.map vI).length : Int) = (ws.length : Int) := by rw [List.length_map]; rfl
        rw [hwl] at hlen
        have hs4 : σc id4 = some ⟨64, 3, [.agg [.nils, vI 0, vI 0]]⟩ := inv.off id4 n45 _ b4
        have hsubc : SubStore σ σc := fun q o ho => inv.off q (ne_new ho (s4.none f5)) _ (hsub5 _ _ ho)
        cases ws with
        | nil =>
          have hr : gtextR l p = ([], p + 3, true) := by
            rw [gtextR, if_neg (by simp [h1]), if_neg (by simp [h2]), if_pos (.inl hws'), hws']; rfl
          rw [hr]
          have hlen0 : lenV false v = some (.int .i64 0) := hlen
          have e4 : ((p + 3 + ([] : List Int).length : Nat) : Int) = ((p + 3 : Nat) : Int) := rfl
          rw [e4] at p6 ⊢
          (refine Runs.of_step Orc.nothing 300 ?_; simp -implicitDefEqProofs only [BB,seval,effR_some,effD_some,← decide_not,okind,vpre,vpure,intBin,intPre,strBin,strPre,popTo,argSlots,fldV,fldAV,subCells,idxVV,idxAAV,idxSV,sliceV,sliceSV,boundV,szIs,storeOp,storeS,setRowV,eff,extV,buildV,splice,eqSV,fitsL,eqCells,eqCell,minmaxV,capV,binBV,nilCheckV,bytesV,V.cells,V.stays,Orc.nothing,p0,p1,p4,p5,p6,hv0,hlen0,hs4])
          exact retG (hsubc.updK f4)
        | cons w ws =>
          have hnz : (((ws.length + 1 : Nat) : Int) = 0) = False := by simp; omega
          have hp6 : p + 3 + (w :: ws).length ≤ 2000000 := by omega
          generalize hk : p + 3 + (w :: ws).length = kk at *
          clear hws hbd
          (refine Runs.of_step Orc.nothing 300 ?_; simp -implicitDefEqProofs only [BB,seval,← decide_not,okind,vpre,vpure,intBin,intPre,strBin,strPre,popTo,argSlots,fldV,fldAV,subCells,idxVV,idxAAV,idxSV,sliceV,sliceSV,boundV,szIs,storeOp,storeS,setRowV,eff,extV,buildV,splice,eqSV,fitsL,eqCells,eqCell,minmaxV,capV,binBV,nilCheckV,bytesV,V.cells,V.stays,Orc.nothing,p0,p1,p4,p5,p6,hv0,hlen,hnz])
          refine Runs.pcall rfl rfl rfl (gsign_c l kk 41 _) ?_
          cases hs : signB 41 (l.drop kk) with
          | false =>
            have hr : gtextR l p = ([], kk, true) := by
              rw [gtextR, if_neg (by simp [h1]), if_neg (by simp [h2]), hws', hk, if_pos (.inr hs)]
            rw [hr]
            (refine Runs.of_step Orc.nothing 300 ?_; simp -implicitDefEqProofs only [BB,seval,effR_some,effD_some,← decide_not,okind,vpre,vpure,intBin,intPre,strBin,strPre,popTo,argSlots,fldV,fldAV,subCells,idxVV,idxAAV,idxSV,sliceV,sliceSV,boundV,szIs,storeOp,storeS,setRowV,eff,extV,buildV,splice,eqSV,fitsL,eqCells,eqCell,minmaxV,capV,binBV,nilCheckV,bytesV,V.cells,V.stays,Orc.nothing,p0,p1,p4,p5,p6,hs4])
            exact retG (hsubc.updK f4)
          | true =>
            have hr : gtextR l p = ([txtN l p (w :: ws)], kk + 1, false) := by
              rw [gtextR, if_neg (by simp [h1]), if_neg (by simp [h2]), hws', hk, if_neg (by simp [hs])]
            rw [hr]
            have hv2 := xall r5
            have hin : inR .i64 ((kk : Int) + 1) := inR_i64 (by omega) (by omega)
            (refine Runs.of_step Orc.nothing 300 ?_; simp -implicitDefEqProofs only [BB,seval,← decide_not,okind,vpre,vpure,intBin,intPre,strBin,strPre,popTo,argSlots,fldV,fldAV,subCells,idxVV,idxAAV,idxSV,sliceV,sliceSV,boundV,szIs,storeOp,storeS,setRowV,eff,extV,buildV,splice,eqSV,fitsL,eqCells,eqCell,minmaxV,capV,binBV,nilCheckV,bytesV,Orc.nothing,p0,p1,p4,p5,p6,hv2,ndW_cells,ndW_stays])
            refine effR_new fun id69 σ69 s69 a69 f69 => ?_
            have g4 := s69 _ _ hs4
            simp -implicitDefEqProofs only [BB,seval,← decide_not,okind,vpre,vpure,intBin,intPre,strBin,strPre,popTo,argSlots,fldV,fldAV,subCells,idxVV,idxAAV,idxSV,sliceV,sliceSV,boundV,szIs,storeOp,storeS,setRowV,eff,extV,buildV,splice,eqSV,fitsL,eqCells,eqCell,minmaxV,capV,binBV,nilCheckV,bytesV,V.cells,V.stays,p4,p6,hin,g4]
            have g69 : σc id69 = none := f69
            have n69 : id69 ≠ id4 := fun e => by rw [e, hs4] at g69; cases g69
            exact retGT (K := K) (x := txtN l p (w :: ws)) ((hsubc.trans s69).updK f4) (by rw [upd_ne n69]; exact a69) (hsubc.none f69) ((hout.mono s69).upd_ne (by rw [b4]; simp)) hsub5 (by omega)
end Go.Vc
namespace Go.Vc
theorem len0_nil {l : List Tk} (h : l.length ≤ ([] : List Tk).length) : l = [] := List.length_eq_zero_iff.1 (by simpa using h)
theorem sign_app {c : Int} {t : Tk} {l r : List Tk} : signB c (t :: l ++ r) = signB c (t :: l) := rfl
theorem num_app {a b : Int} {t : Tk} {l r : List Tk} : numB a b (t :: l ++ r) = numB a b (t :: l) := rfl
theorem nodesR_none {f : Nat} {l : List Tk} (h1 : signB 91 l = false) (h2 : signB 40 l = false) (h3 : signB 123 l = false) (h4 : signB 60 l = false) : nodesR f l = ([], l, false) := by
  cases f with
  | zero => rfl
  | succ f => rw [nodesR, if_neg (by simp [h1]), if_neg (by simp [h2]), if_neg (by simp [h3]), if_neg (by simp [h4])]
theorem nodesR_block {f : Nat} {l : List Tk} (h1 : signB 91 l = true) : nodesR (f + 1) l = (Shp.block (attrsT (fun _ => true) plainS l.tail false).1 (nodesT f (attrsT (fun _ => true) plainS l.tail false).2.1 (attrsT (fun _ => true) plainS l.tail false).2.2).1 ::
    (nodesT f (takeR 93 (nodesT f (attrsT (fun _ => true) plainS l.tail false).2.1 (attrsT (fun _ => true) plainS l.tail false).2.2).2.1 (nodesT f (attrsT (fun _ => true) plainS l.tail false).2.1 (attrsT (fun _ => true) plainS l.tail false).2.2).2.2).1 (takeR 93 (nodesT f (attrsT (fun _ => true) plainS l.tail false).2.1 (attrsT (fun _ => true) plainS l.tail false).2.2).2.1 (nodesT f (attrsT (fun _ => true) plainS l.tail false).2.1 (attrsT (fun _ => true) plainS l.tail false).2.2).2.2).2).1,
    (nodesT f (takeR 93 (nodesT f (attrsT (fun _ => true) plainS l.tail false).2.1 (attrsT (fun _ => true) plainS l.tail false).2.2).2.1 (nodesT f (attrsT (fun _ => true) plainS l.tail false).2.1 (attrsT (fun _ => true) plainS l.tail false).2.2).2.2).1 (takeR 93 (nodesT f (attrsT (fun _ => true) plainS l.tail false).2.1 (attrsT (fun _ => true) plainS l.tail false).2.2).2.1 (nodesT f (attrsT (fun _ => true) plainS l.tail false).2.1 (attrsT (fun _ => true) plainS l.tail false).2.2).2.2).2).2) := by
  rw [nodesR, if_pos h1]; rfl
theorem nodesR_text {f : Nat} {l : List Tk} (h1 : signB 91 l = false) (h2 : signB 40 l = true) : nodesR (f + 1) l = (Shp.text (textR l).1 :: (nodesT f (textR l).2.1 (textR l).2.2).1, (nodesT f (textR l).2.1 (textR l).2.2).2) := by
  rw [nodesR, if_neg (by simp [h1]), if_pos h2]; rfl
theorem nodesR_box {f : Nat} {l : List Tk} (h1 : signB 91 l = false) (h2 : signB 40 l = false) (h3 : signB 123 l = true) : nodesR (f + 1) l = (Shp.box (boxR 125 l.tail false).1 (boxR 125 l.tail false).2.1 ::
    (nodesT f (boxR 125 l.tail false).2.2.1 (boxR 125 l.tail false).2.2.2).1, (nodesT f (boxR 125 l.tail false).2.2.1 (boxR 125 l.tail false).2.2.2).2) := by
  rw [nodesR, if_neg (by simp [h1]), if_neg (by simp [h2]), if_pos h3]; rfl
theorem nodesR_float {f : Nat} {l : List Tk} (h1 : signB 91 l = false) (h2 : signB 40 l = false) (h3 : signB 123 l = false) (h4 : signB 60 l = true) : nodesR (f + 1) l = ((floatR l false).1 ::
    (nodesT f (floatR l false).2.1 (floatR l false).2.2).1, (nodesT f (floatR l false).2.1 (floatR l false).2.2).2) := by
  rw [nodesR, if_neg (by simp [h1]), if_neg (by simp [h2]), if_neg (by simp [h3]), if_pos h4]; rfl
theorem sign_cases (l : List Tk) : signB 91 l = true ∨ (signB 91 l = false ∧ signB 40 l = true) ∨ (signB 91 l = false ∧ signB 40 l = false ∧ signB 123 l = true) ∨ (signB 91 l = false ∧ signB 40 l = false ∧ signB 123 l = false ∧ signB 60 l = true) ∨
    (signB 91 l = false ∧ signB 40 l = false ∧ signB 123 l = false ∧ signB 60 l = false) := by
  cases signB 91 l <;> cases signB 40 l <;> cases signB 123 l <;> cases signB 60 l <;> simp
end Go.Vc
namespace Go.Vc
theorem take_ok {c : Int} {l r : List Tk} {w : Bool} (h : (takeR c l w).2 = false) : takeR c (l ++ r) w = ((takeR c l w).1 ++ r, false) ∧ l ≠ [] ∧ w = false := by
  unfold takeR at h ⊢
  split at h
  · cases h
  · rename_i hn
    rw [if_neg hn]
    simp only [Bool.or_eq_true,Bool.not_eq_true',not_or,Bool.not_eq_true] at hn
    obtain ⟨rfl, hs⟩ := hn
    cases l with
    | nil => simp [signB] at hs
    | cons t l =>
      have hs : signB c (t :: l) = true := by simpa using hs
      rw [if_neg (by rw [sign_app, hs]; simp)]
      exact ⟨rfl, by simp, rfl⟩
theorem count_ok {a b : Int} {l r : List Tk} {w : Bool} (h : (countR a b l w).2.2 = false) : countR a b (l ++ r) w = ((countR a b l w).1, (countR a b l w).2.1 ++ r, false) ∧ l ≠ [] ∧ w = false := by
  cases l with
  | nil => simp [countR] at h
  | cons t l =>
    rw [countR] at h ⊢
    split at h
    · cases h
    · rename_i hn
      rw [if_neg hn]
      rw [List.cons_append, countR, ← List.cons_append, num_app, if_neg hn]
      refine ⟨rfl, by simp, ?_⟩
      cases w with
      | false => rfl
      | true => simp at hn
theorem nodesT_true (f : Nat) (l : List Tk) : nodesT f l true = ([], l, true) := rfl
theorem nodesT_false (f : Nat) (l : List Tk) : nodesT f l false = nodesR f l := rfl
theorem nodes_fuel : ∀ (m : Nat) (l : List Tk) (w : Bool) (f F : Nat), l.length ≤ m → l.length ≤ f → l.length ≤ F → nodesT f l w = nodesT F l w := by
  intro m
  induction m using Nat.strongRecOn with
  | _ m ih =>
    intro l w f F hm hf hF
    cases w with
    | true => rfl
    | false =>
      rw [nodesT_false, nodesT_false]
      cases l with
      | nil => rw [nodesR_none rfl rfl rfl rfl, nodesR_none rfl rfl rfl rfl]
      | cons t l =>
        simp only [List.length_cons] at hm hf hF
        obtain ⟨f, rfl⟩ : ∃ g, f = g + 1 := ⟨f - 1, by omega⟩
        obtain ⟨F, rfl⟩ : ∃ g, F = g + 1 := ⟨F - 1, by omega⟩
        rcases sign_cases (t :: l) with q | ⟨q1, q2⟩ | ⟨q1, q2, q3⟩ | ⟨q1, q2, q3, q4⟩ | ⟨q1, q2, q3, q4⟩
        · rw [nodesR_block q, nodesR_block q]
          simp only [List.tail_cons]
          have ha1 := (attrsT_len (fun _ => true) plainS l false).2
          generalize attrsT (fun _ => true) plainS l false = a at *
          rw [ih l.length (by omega) a.2.1 a.2.2 f F (by omega) (by omega) (by omega)]
          have hn2 := nodesT_len F a.2.1 a.2.2
          generalize nodesT F a.2.1 a.2.2 = n at *
          have hc1 := takeR_len 93 n.2.1 n.2.2
          generalize takeR 93 n.2.1 n.2.2 = c at *
          rw [ih l.length (by omega) c.1 c.2 f F (by omega) (by omega) (by omega)]
        · rw [nodesR_text q1 q2, nodesR_text q1 q2]
          have ha1 := textR_len q2
          generalize textR (t :: l) = a at *
          simp only [List.length_cons] at ha1
          rw [ih l.length (by omega) a.2.1 a.2.2 f F (by omega) (by omega) (by omega)]
        · rw [nodesR_box q1 q2 q3, nodesR_box q1 q2 q3]
          simp only [List.tail_cons]
          have ha1 := boxR_len 125 l false
          generalize boxR 125 l false = a at *
          rw [ih l.length (by omega) a.2.2.1 a.2.2.2 f F (by omega) (by omega) (by omega)]
        · rw [nodesR_float q1 q2 q3 q4, nodesR_float q1 q2 q3 q4]
          have ha1 := floatR_len q4
          generalize floatR (t :: l) false = a at *
          simp only [List.length_cons] at ha1
          rw [ih l.length (by omega) a.2.1 a.2.2 f F (by omega) (by omega) (by omega)]
        · rw [nodesR_none q1 q2 q3 q4, nodesR_none q1 q2 q3 q4]
end Go.Vc
namespace Go.Vc
theorem ofI_bad_lt (s : List UInt8) : ∀ (m i : Nat) (c : Bool), s.length - i ≤ m → ∀ p, ofI s c i = .bad p → p < s.length := by
  intro m
  induction m with
  | zero => intro i c hm l h; rw [ofI_end (by omega)] at h; cases h
  | succ m ih =>
    intro i c hm l h
    by_cases hlt : i < s.length
    · by_cases hz : sizeR s i = 0
      · rw [ofI_bad hlt hz] at h; cases h; exact hlt
      · have cons : ∀ (r : Res) (t : Tk), r.cons t = .bad l → r = .bad l := fun r t hr => by
          cases r with
          | ok l' => cases hr
          | bad q => cases hr; rfl
        cases c
        · by_cases h35 : byt s i = 35
          · rw [ofI_hash hlt hz h35] at h
            exact ih _ _ (by omega) l h
          · by_cases hw : byt s i = 32 ∨ byt s i = 9 ∨ byt s i = 10
            · rw [ofI_white hlt hz hw] at h
              exact ih _ _ (by omega) l h
            · by_cases hd : 48 ≤ byt s i ∧ byt s i ≤ 57
              · have hdp := digLen_pos hd.1 hd.2
                rw [ofI_num hlt hz hd] at h
                split at h
                · cases h; exact hlt
                · exact ih _ _ (by omega) l (cons _ _ h)
              · rw [ofI_sign hlt hz (by omega)] at h
                exact ih _ _ (by omega) l (cons _ _ h)
        · rw [ofI_com hlt hz] at h
          exact ih _ _ (by omega) l h
    · rw [ofI_end hlt] at h; cases h
theorem ofI_at (s : List UInt8) : ∀ (m i : Nat) (c : Bool), s.length - i ≤ m → ∀ l, ofI s c i = .ok l → ∀ t ∈ l, (i : Int) ≤ t.at' ∧ t.at' < s.length := by
  intro m
  induction m with
  | zero => intro i c hm l h; rw [ofI_end (by omega)] at h; cases h; simp
  | succ m ih =>
    intro i c hm l h t ht
    by_cases hlt : i < s.length
    · by_cases hz : sizeR s i = 0
      · rw [ofI_bad hlt hz] at h; cases h
      · have cons : ∀ (r : Res) (t : Tk), r.cons t = .ok l → ∃ l', r = .ok l' ∧ l = t :: l' := fun r t hr => by
          cases r with
          | ok l' => exact ⟨l', rfl, by simpa [Res.cons] using hr.symm⟩
          | bad => cases hr
        cases c
        · by_cases h35 : byt s i = 35
          · rw [ofI_hash hlt hz h35] at h
            have := ih _ _ (by omega) l h t ht; omega
          · by_cases hw : byt s i = 32 ∨ byt s i = 9 ∨ byt s i = 10
            · rw [ofI_white hlt hz hw] at h
              have := ih _ _ (by omega) l h t ht; omega
            · by_cases hd : 48 ≤ byt s i ∧ byt s i ≤ 57
              · have hdp := digLen_pos hd.1 hd.2
                rw [ofI_num hlt hz hd] at h
                split at h
                · cases h
                · obtain ⟨l', h1, rfl⟩ := cons _ _ h
                  rcases List.mem_cons.1 ht with rfl | ht
                  · simp only; omega
                  · have := ih _ _ (by omega) l' h1 t ht; omega
              · rw [ofI_sign hlt hz (by omega)] at h
                obtain ⟨l', h1, rfl⟩ := cons _ _ h
                rcases List.mem_cons.1 ht with rfl | ht
                · simp only; omega
                · have := ih _ _ (by omega) l' h1 t ht; omega
        · rw [ofI_com hlt hz] at h
          have := ih _ _ (by omega) l h t ht; omega
    · rw [ofI_end hlt] at h; cases h; cases ht
theorem rest_suffix_take (c : Int) (l : List Tk) (w : Bool) : ∃ p, l = p ++ (takeR c l w).1 := by
  unfold takeR
  split
  · exact ⟨[], rfl⟩
  · cases l with
    | nil => exact ⟨[], rfl⟩
    | cons t l => exact ⟨[t], rfl⟩
theorem rest_suffix_count (a b : Int) (l : List Tk) (w : Bool) : ∃ p, l = p ++ (countR a b l w).2.1 := by
  cases l with
  | nil => exact ⟨[], rfl⟩
  | cons t l =>
    rw [countR]
    split
    · exact ⟨[], rfl⟩
    · exact ⟨[t], rfl⟩
theorem rest_suffix_nums : ∀ (l : List Tk), ∃ p, l = p ++ (numsR l).2
  | [] => ⟨[], rfl⟩
  | t :: l => by
    rw [numsR]
    split
    · obtain ⟨p, hp⟩ := rest_suffix_nums l
      exact ⟨t :: p, by rw [List.cons_append, ← hp]⟩
    · exact ⟨[], rfl⟩
theorem suf_trans {l m n : List Tk} (h1 : ∃ p, l = p ++ m) (h2 : ∃ p, m = p ++ n) : ∃ p, l = p ++ n := by
  obtain ⟨p, rfl⟩ := h1
  obtain ⟨q, rfl⟩ := h2
  exact ⟨p ++ q, by simp⟩
theorem rest_suffix_attrs : ∀ (m : Nat) (l : List Tk) (av : Int → Bool) (s : List Int) (w : Bool), l.length ≤ m → ∃ p, l = p ++ (attrsT av s l w).2.1 := by
  intro m
  induction m with
  | zero =>
    intro l av s w hm
    have h0 : l = [] := List.length_eq_zero_iff.1 (by omega)
    subst h0
    exact ⟨[], by rw [len0_nil (attrsT_len av s [] w).2]; rfl⟩
  | succ m ih =>
    intro l av s w hm
    cases w with
    | true => exact ⟨[], rfl⟩
    | false =>
      cases l with
      | nil => exact ⟨[], by rw [len0_nil (attrsT_len av s [] false).2]; rfl⟩
      | cons t l =>
        by_cases h1 : t.kind = 1
        · cases h3 : av t.sign with
          | false =>
            refine ⟨[], ?_⟩
            rw [attrsT, if_neg (by simp), attrsR, if_pos h1, h3]
            rfl
          | true =>
            cases h4 : spec t.sign with
            | none =>
              refine ⟨[], ?_⟩
              rw [attrsT, if_neg (by simp), attrsR, if_pos h1, h3]
              simp only [if_true,h4,List.nil_append]
            | some q =>
              obtain ⟨k, a, b⟩ := q
              rw [attrsT, if_neg (by simp), attrsT_step h1 h3 h4]
              have hl := count_len a b l false
              simp only [List.length_cons] at hm
              obtain ⟨p, hp⟩ := suf_trans (rest_suffix_count a b l false) (ih _ (fun c => if c = t.sign then false else av c) (s.set k (countR a b l false).1) (countR a b l false).2.2 (by omega))
              exact ⟨t :: p, by rw [List.cons_append, ← hp]⟩
        · refine ⟨[], ?_⟩
          rw [attrsT, if_neg (by simp), attrsR, if_neg h1]
          rfl
theorem tail_suffix (l : List Tk) : ∃ p, l = p ++ l.tail := by
  cases l with
  | nil => exact ⟨[], rfl⟩
  | cons t l => exact ⟨[t], rfl⟩
theorem rest_suffix_box (e : Int) (l : List Tk) (w : Bool) : ∃ p, l = p ++ (boxR e l w).2.2.1 :=
  suf_trans (rest_suffix_count 1 MX l w) (suf_trans (rest_suffix_count _ _ _ _) (rest_suffix_take e _ _))
theorem rest_suffix_text (l : List Tk) : ∃ p, l = p ++ (textR l).2.1 :=
  suf_trans (rest_suffix_take 40 l false) (suf_trans (rest_suffix_count _ _ _ _) (suf_trans (rest_suffix_count _ _ _ _) (suf_trans (rest_suffix_count _ _ _ _) (suf_trans (rest_suffix_nums _) (rest_suffix_take 41 _ _)))))
theorem rest_suffix_float (l : List Tk) : ∃ p, l = p ++ (floatR l false).2.1 :=
  suf_trans (rest_suffix_take 60 l false) (suf_trans (rest_suffix_take _ _ _) (rest_suffix_box 62 _ _))
theorem rest_suffix : ∀ (f : Nat) (l : List Tk) (w : Bool), ∃ p, l = p ++ (nodesT f l w).2.1
  | f, l, true => ⟨[], rfl⟩
  | 0, l, false => ⟨[], rfl⟩
  | f + 1, l, false => by
    rw [nodesT_false]
    rcases sign_cases l with q | ⟨q1, q2⟩ | ⟨q1, q2, q3⟩ | ⟨q1, q2, q3, q4⟩ | ⟨q1, q2, q3, q4⟩
    · rw [nodesR_block q]
      exact suf_trans (tail_suffix l) (suf_trans (rest_suffix_attrs _ _ _ _ _ (Nat.le_refl _)) (suf_trans (rest_suffix f _ _) (suf_trans (rest_suffix_take 93 _ _) (rest_suffix f _ _))))
    · rw [nodesR_text q1 q2]
      exact suf_trans (rest_suffix_text l) (rest_suffix f _ _)
    · rw [nodesR_box q1 q2 q3]
      exact suf_trans (tail_suffix l) (suf_trans (rest_suffix_box 125 _ _) (rest_suffix f _ _))
    · rw [nodesR_float q1 q2 q3 q4]
      exact suf_trans (rest_suffix_float l) (rest_suffix f _ _)
    · rw [nodesR_none q1 q2 q3 q4]
      exact ⟨[], rfl⟩
theorem readR_bad {s : List UInt8} (h : (readR s).2.2 ≠ 0) : (readR s).1 = [] ∧ (readR s).2.2 = 1 ∧ 0 ≤ (readR s).2.1 ∧ (readR s).2.1 ≤ s.length := by
  unfold readR at h ⊢
  cases hl : ofI s false 0 with
  | bad p =>
    have := ofI_bad_lt s _ 0 false (Nat.le_refl _) p hl
    exact ⟨rfl, rfl, by simp only; omega, by simp only; omega⟩
  | ok l =>
    rw [hl] at h
    simp only at h ⊢
    have hat := ofI_at s _ 0 false (Nat.le_refl _) l hl
    obtain ⟨p, hp⟩ := rest_suffix l.length l false
    rw [nodesT_false] at hp
    cases hn : (nodesR l.length l).2.1 with
    | cons t r =>
      rw [hn] at hp
      have := hat t (by rw [hp]; simp)
      simp only
      exact ⟨trivial, trivial, by omega, by omega⟩
    | nil =>
      rw [hn] at h
      simp only at h ⊢
      split
      · simp only
        exact ⟨trivial, trivial, by omega, by omega⟩
      · rename_i hw
        rw [if_neg hw] at h
        exact absurd rfl h
theorem readR_ok {s : List UInt8} (h : (readR s).2.2 = 0) : (readR s).2.1 = 0 ∧ ∃ l, ofI s false 0 = .ok l ∧ (nodesR l.length l).2 = ([], false) ∧ (readR s).1 = toldL (nodesR l.length l).1 := by
  unfold readR at h ⊢
  cases hl : ofI s false 0 with
  | bad p => rw [hl] at h; simp at h
  | ok l =>
    rw [hl] at h
    simp only at h ⊢
    cases hn : (nodesR l.length l).2.1 with
    | cons t r => rw [hn] at h; simp at h
    | nil =>
      rw [hn] at h
      simp only at h ⊢
      cases hw : (nodesR l.length l).2.2 with
      | true => rw [hw] at h; simp at h
      | false => exact ⟨rfl, l, rfl, Prod.ext hn hw, rfl⟩
end Go.Vc
namespace Go.Vc
def toG (L : Nat) (xs : List Nd) (r : RS) : GR := if r.2 then ([], L - r.1.length, true) else (xs, L - r.1.length, false)
theorem toG_at {l : List Tk} {xs : List Nd} {q : Nat} (h : q ≤ l.length) : toG l.length xs (l.drop q, false) = (xs, q, false) := by
  simp only [toG,Bool.false_eq_true,if_false,List.length_drop]; congr 2; omega
theorem toG_bad {l : List Tk} {xs : List Nd} {q : Nat} (h : q ≤ l.length) : toG l.length xs (l.drop q, true) = ([], q, true) := by
  simp only [toG,if_true,List.length_drop]; congr 2; omega
theorem gbox_toG (l : List Tk) (p : Nat) (x : Nd) (e : Int) (hp : p ≤ l.length) : gboxR l p x e = toG l.length [{ x with w := (boxR e (l.drop p) false).1, h := (boxR e (l.drop p) false).2.1 }] (boxR e (l.drop p) false).2.2 := by
  rw [gbox_eq l p x e hp]; rfl
theorem nums_drop (l : List Tk) : ∀ (m k : Nat), l.length - k ≤ m → (numsR (l.drop k)).2 = l.drop (k + (numsR (l.drop k)).1.length) ∧ k + (numsR (l.drop k)).1.length ≤ max k l.length
  | m, k, h => by
    by_cases hk : k < l.length
    · rw [List.drop_eq_getElem_cons hk, numsR]
      split
      · cases m with
        | zero => omega
        | succ m =>
          have ih := nums_drop l m (k + 1) (by omega)
          simp only [List.length_cons]
          rw [show k + ((numsR (l.drop (k + 1))).1.length + 1) = k + 1 + (numsR (l.drop (k + 1))).1.length by omega]
          exact ⟨ih.1, by omega⟩
      · simp only [List.length_nil,Nat.add_zero]
        exact ⟨(List.drop_eq_getElem_cons hk).symm, by omega⟩
    · rw [List.drop_eq_nil_of_le (by omega)]
      simp only [numsR,List.length_nil,Nat.add_zero]
      exact ⟨(List.drop_eq_nil_of_le (by omega)).symm, by omega⟩
theorem gtext_eq (l : List Tk) (p : Nat) (hs : signB 40 (l.drop p) = true) : gtextR l p = toG l.length [ndS (.text (textR (l.drop p)).1)] (textR (l.drop p)).2 := by
  have hp := signB_lt hs
  have ht : textR (l.drop p) = ([(countR 1 MX (l.drop (p + 1)) false).1, (countR 0 MX (countR 1 MX (l.drop (p + 1)) false).2.1 (countR 1 MX (l.drop (p + 1)) false).2.2).1,
      (countR 1 MX (countR 0 MX (countR 1 MX (l.drop (p + 1)) false).2.1 (countR 1 MX (l.drop (p + 1)) false).2.2).2.1 (countR 0 MX (countR 1 MX (l.drop (p + 1)) false).2.1 (countR 1 MX (l.drop (p + 1)) false).2.2).2.2).1] ++
      (numsR (countR 1 MX (countR 0 MX (countR 1 MX (l.drop (p + 1)) false).2.1 (countR 1 MX (l.drop (p + 1)) false).2.2).2.1 (countR 0 MX (countR 1 MX (l.drop (p + 1)) false).2.1 (countR 1 MX (l.drop (p + 1)) false).2.2).2.2).2.1).1,
      takeR 41 (numsR (countR 1 MX (countR 0 MX (countR 1 MX (l.drop (p + 1)) false).2.1 (countR 1 MX (l.drop (p + 1)) false).2.2).2.1 (countR 0 MX (countR 1 MX (l.drop (p + 1)) false).2.1 (countR 1 MX (l.drop (p + 1)) false).2.2).2.2).2.1).2
      (countR 1 MX (countR 0 MX (countR 1 MX (l.drop (p + 1)) false).2.1 (countR 1 MX (l.drop (p + 1)) false).2.2).2.1 (countR 0 MX (countR 1 MX (l.drop (p + 1)) false).2.1 (countR 1 MX (l.drop (p + 1)) false).2.2).2.2).2.2) := by
    unfold textR
    simp only [take_yes hs]
  rw [ht]
  clear ht
  unfold gtextR
  cases h1 : numB 1 MX (l.drop (p + 1)) with
  | false =>
    rw [if_pos rfl, count_no h1]
    simp only [count_w,take_w]
    rw [numsR_no h1, toG_bad (by omega)]
  | true =>
    have q1 := numB_lt h1
    rw [if_neg (by simp), count_yes h1]
    simp only
    cases h2 : numB 0 MX (l.drop (p + 2)) with
    | false =>
      rw [if_pos rfl, count_no h2]
      simp only [count_w,take_w]
      rw [numsR_no (numB_weak h2), toG_bad (by omega)]
    | true =>
      have q2 := numB_lt h2
      rw [if_neg (by simp), count_yes h2]
      simp only
      cases h3 : numB 1 MX (l.drop (p + 3)) with
      | false =>
        rw [numsR_no h3, if_pos (.inl rfl), count_no h3]
        simp only [take_w,List.length_nil,Nat.add_zero]
        rw [numsR_no h3, toG_bad (by omega)]
      | true =>
        have q3 := numB_lt h3
        have hn : numsR (l.drop (p + 3)) = (tokN l (p + 3) :: (numsR (l.drop (p + 4))).1, (numsR (l.drop (p + 4))).2) := by
          have t3 : tokN l (p + 3) = l[p + 3].n := by simp [tokN, q3]
          rw [t3]
          rw [List.drop_eq_getElem_cons q3] at h3 ⊢
          rw [numsR, if_pos h3]
        rw [count_yes h3]
        simp only
        have hd := nums_drop l l.length (p + 4) (by omega)
        rw [hn]
        generalize numsR (l.drop (p + 4)) = ws at *
        simp only [List.length_cons,reduceCtorEq,false_or]
        rw [hd.1, show p + 3 + (ws.1.length + 1) = p + 4 + ws.1.length by omega]
        cases h4 : signB 41 (l.drop (p + 4 + ws.1.length)) with
        | false =>
          rw [if_pos rfl, take_no h4, toG_bad (by omega)]
        | true =>
          have q4 := signB_lt h4
          rw [if_neg (by simp), take_yes h4, toG_at (by omega)]
          rfl
def avT (told : List UInt8) (c : Int) : Bool := !(told.any fun b => decide ((b.toNat : Int) = c))
theorem avT_nil : avT [] = fun _ => true := rfl
theorem avT_snoc (told : List UInt8) (b : UInt8) : avT (told ++ [b]) = fun c => if c = (b.toNat : Int) then false else avT told c := by
  funext c
  unfold avT
  rw [List.any_append]
  by_cases h : c = (b.toNat : Int)
  · subst h; simp
  · simp [h, Ne.symm h]
theorem has_av (told : List UInt8) (c : UInt8) : told.contains c = !avT told (c.toNat : Int) := by
  rw [Bool.eq_iff_iff, List.contains_iff_mem]
  simp only [avT,Bool.not_not,List.any_eq_true,decide_eq_true_eq]
  constructor
  · intro h; exact ⟨c, h, rfl⟩
  · rintro ⟨b, h, e⟩
    have : b = c := UInt8.toNat_inj.1 (by omega)
    rw [← this]; exact h
theorem letF_none (told : List UInt8) (l : List Tk) : ∀ (cs : List UInt8), (∀ c ∈ cs, signB (c.toNat : Int) l = false) → letF told l cs = 0
  | [], _ => rfl
  | c :: cs, h => by
    rw [letF, h c (by simp), if_neg (by simp)]
    exact letF_none told l cs fun d hd => h d (by simp [hd])
theorem letF_at (told : List UInt8) (t : Tk) (r : List Tk) (h1 : t.kind = 1) : ∀ (cs : List UInt8) (c : UInt8), c ∈ cs → t.sign = (c.toNat : Int) → letF told (t :: r) cs = if avT told t.sign then t.sign else 0
  | [], _, hc, _ => by cases hc
  | d :: cs, c, hc, hs => by
    rw [letF]
    by_cases hd : d = c
    · subst hd
      have : signB (d.toNat : Int) (t :: r) = true := by simp [signB, h1, hs]
      rw [if_pos this, has_av, hs]
      cases avT told (d.toNat : Int) <;> rfl
    · have : signB (d.toNat : Int) (t :: r) = false := by
        simp only [signB,h1,decide_true,Bool.true_and,decide_eq_false_iff_not]
        intro e
        exact hd (UInt8.toNat_inj.1 (by omega))
      rw [this, if_neg (by simp)]
      refine letF_at told t r h1 cs c ?_ hs
      rcases List.mem_cons.1 hc with e | e
      · exact absurd e.symm hd
      · exact e
theorem spec_none {c : Int} (h : spec c = none) : ∀ b ∈ lettersB, c ≠ (b.toNat : Int) := by
  intro b hb e
  have hb : b = 109 ∨ b = 110 ∨ b = 112 ∨ b = 113 ∨ b = 105 ∨ b = 111 ∨ b = 119 ∨ b = 104 ∨ b = 66 ∨ b = 65 ∨ b = 73 ∨ b = 99 := by simpa [lettersB] using hb
  rcases hb with rfl | rfl | rfl | rfl | rfl | rfl | rfl | rfl | rfl | rfl | rfl | rfl <;> subst e <;> cases h
theorem spec_some {c : Int} {q : Nat × Int × Int} (h : spec c = some q) : (∃ b ∈ lettersB, c = (b.toNat : Int)) ∧ limR c = (q.2.1, q.2.2) := by
  have ex : ∀ b : UInt8, b ∈ lettersB → spec (b.toNat : Int) = some q → c = (b.toNat : Int) → limR (b.toNat : Int) = (q.2.1, q.2.2) → (∃ b ∈ lettersB, c = (b.toNat : Int)) ∧ limR c = (q.2.1, q.2.2) := fun b hb _ e hl => ⟨⟨b, hb, e⟩, by rw [e]; exact hl⟩
  by_cases h0 : c = 99
  · subst h0; refine ex 99 (by decide) h rfl ?_; cases h; rfl
  by_cases h1 : c = 73
  · subst h1; refine ex 73 (by decide) h rfl ?_; cases h; rfl
  by_cases h2 : c = 65
  · subst h2; refine ex 65 (by decide) h rfl ?_; cases h; rfl
  by_cases h3 : c = 66
  · subst h3; refine ex 66 (by decide) h rfl ?_; cases h; rfl
  by_cases h4 : c = 104
  · subst h4; refine ex 104 (by decide) h rfl ?_; cases h; rfl
  by_cases h5 : c = 119
  · subst h5; refine ex 119 (by decide) h rfl ?_; cases h; rfl
  by_cases h6 : c = 111
  · subst h6; refine ex 111 (by decide) h rfl ?_; cases h; rfl
  by_cases h7 : c = 105
  · subst h7; refine ex 105 (by decide) h rfl ?_; cases h; rfl
  by_cases h8 : c = 113
  · subst h8; refine ex 113 (by decide) h rfl ?_; cases h; rfl
  by_cases h9 : c = 112
  · subst h9; refine ex 112 (by decide) h rfl ?_; cases h; rfl
  by_cases h10 : c = 110
  · subst h10; refine ex 110 (by decide) h rfl ?_; cases h; rfl
  by_cases h11 : c = 109
  · subst h11; refine ex 109 (by decide) h rfl ?_; cases h; rfl
  exfalso
  rw [spec, if_neg h0, if_neg h1, if_neg h2, if_neg h3, if_neg h4, if_neg h5, if_neg h6, if_neg h7, if_neg h8, if_neg h9, if_neg h10, if_neg h11] at h
  cases h
theorem letter_is (told : List UInt8) (l : List Tk) : (letterR told l = 0 ∧ ∀ s, attrsT (avT told) s l false = (s, l, false)) ∨
    ∃ (t : Tk) (r : List Tk) (b : UInt8) (q : Nat × Int × Int), l = t :: r ∧ letterR told l = (b.toNat : Int) ∧ t.kind = 1 ∧ t.sign = (b.toNat : Int) ∧ avT told t.sign = true ∧ spec t.sign = some q ∧ (b.toNat : Int) ≠ 0 := by
  cases l with
  | nil => exact .inl ⟨letF_none told [] _ fun _ _ => rfl, fun s => rfl⟩
  | cons t r =>
    by_cases h1 : t.kind = 1
    · cases h2 : spec t.sign with
      | none =>
        left
        refine ⟨letF_none told _ _ fun c hc => ?_, fun s => ?_⟩
        · have := spec_none h2 c hc
          simp [signB, this]
        · rw [attrsT, if_neg (by simp), attrsR, if_pos h1]
          cases avT told t.sign <;> simp [h2]
      | some q =>
        obtain ⟨⟨b, hb, hs⟩, _⟩ := spec_some h2
        have hl := letF_at told t r h1 lettersB b hb hs
        cases h3 : avT told t.sign with
        | false =>
          left
          refine ⟨by rw [letterR, hl, h3]; rfl, fun s => ?_⟩
          rw [attrsT, if_neg (by simp), attrsR, if_pos h1, h3]
          rfl
        | true =>
          right
          refine ⟨t, r, b, q, rfl, by rw [letterR, hl, h3, hs]; rfl, h1, hs, h3, h2, ?_⟩
          intro e
          have hb : b = 109 ∨ b = 110 ∨ b = 112 ∨ b = 113 ∨ b = 105 ∨ b = 111 ∨ b = 119 ∨ b = 104 ∨ b = 66 ∨ b = 65 ∨ b = 73 ∨ b = 99 := by simpa [lettersB] using hb
          rcases hb with rfl | rfl | rfl | rfl | rfl | rfl | rfl | rfl | rfl | rfl | rfl | rfl <;> cases e
    · left
      refine ⟨letF_none told _ _ fun c hc => by simp [signB, h1], fun s => ?_⟩
      rw [attrsT, if_neg (by simp), attrsR, if_neg h1]
end Go.Vc
namespace Go.Vc
open Go.Proofs
section
variable {P : Program} {n : Nat} {st : St} {Q : St → Prop} {k : List It}
theorem Go.pcallG {i : VIns} {l : List VIns} {fx : VX} {xs : List VX} {f : FuncId} {caps : List V} {v : V} (hw : wantV st.s i.g = some true) (ho : i.op = .call fx xs)
    (hf : fx.ev st.s = .fn f caps) (hc : PFun P f (xs.map (·.ev st.s) ++ caps) v) (h : Go P n (.d l k) ⟨putO st.s i.dst v, st.σ⟩ Q) : Go P n (.d (i :: l) k) st Q := by
  refine T_true hw ?_
  rw [ho]
  exact ⟨f, caps, v, hf, fun σ1 _ => hc σ1, h⟩
end
theorem Contract.args {P : Program} {f : FuncId} {args args' : List V} {σ : Store} {Post : V → Store → Prop} (hw : WkL σ σ args args') (h : Contract P f args' σ Post) : Contract P f args σ Post :=
  ⟨h.1, fun μ w vals hs hr => h.2 μ w vals hs (WkL.all hs hw hr)⟩
def gnodesR (l : List Tk) (p : Nat) : GR := toG l.length (toldL (nodesR l.length (l.drop p)).1) (nodesR l.length (l.drop p)).2
def NodesG (l : List Tk) (k : Nat) : Prop := ∀ p, p ≤ l.length → l.length - p ≤ k → PFun Tryd.prog 37 [encL l, vI p] (encG (gnodesR l p))
def gblockR (l : List Tk) (p : Nat) : GR :=
  let a := attrsT (fun _ => true) plainS (l.drop (p + 1)) false
  let n := nodesT l.length a.2.1 a.2.2
  toG l.length (toldS (.block a.1 n.1)) (takeR 93 n.2.1 n.2.2)
abbrev gotO (v : V) : Ob := ⟨64, 3, [v]⟩
abbrev styR (s : List Int) : Ob := ⟨34, 12, [.agg (s.map vI)]⟩
structure BInv (K σ : Store) (id5 : Nat) (s : List Int) : Prop where
  off : Off id5 K σ
  r5 : σ id5 = some (styR s)
  len : s.length = 12
theorem sload {σ : Store} {id5 : Nat} {s : List Int} (h : σ id5 = some (styR s)) (hl : s.length = 12) : loadV σ true 12 (.ptr id5 0 0) = some (.agg (s.map vI)) := by
  simp [loadV, h, V.cells, hl]
theorem sstore {σ : Store} {id5 : Nat} {s s' : List Int} (h : σ id5 = some (styR s)) (hl : s.length = 12) (hl' : s'.length = 12) : storeS σ 12 (.ptr id5 0 0) (.agg (s'.map vI)) = some (upd σ id5 (styR s')) := by
  simp [storeS, h, setRowV, V.cells, V.stays, hl, hl']
theorem suffix_drop {l r : List Tk} (h : ∃ p, l = p ++ r) : r = l.drop (l.length - r.length) := by
  obtain ⟨p, rfl⟩ := h
  rw [List.length_append, Nat.add_sub_cancel, List.drop_left]
theorem noid_nds (l : List Nd) : noidL (l.map encN) = true := by
  induction l with
  | nil => rfl
  | cons x l ih =>
    rw [List.map_cons, noidL, ih]
    simp [encN, Nd.cells, V.noid, noidL, encI, noid_ints]
theorem retGR {σ τ : Store} {id n : Nat} {x : Nd} {ns : List Nd} {p : Nat} {a : Int} {v : V} (h : SubStore σ τ) (hid : τ id = some ⟨37, 20, ndW x v :: ns.map encN⟩) (hn : σ id = none)
    (hv : Fz τ (fun id => σ id = none) v (encI x.words)) (hl : n = ns.length + 1) (ha : a = (p : Int)) :
    RetV (.agg [.own id 0 n, .int .i64 a, .int .i64 0]) τ fun r σ' => r = encG (x :: ns, p, false) ∧ σ' = σ := by
  subst ha hl
  refine ⟨_, σ, h, (Fz.agg _ _ (.cons _ _ _ _ (.own id 0 (ns.length + 1) _ ((x :: ns).map encN) hid (show σ id = none from hn) (by simp) ?_) (FzL.same [vI (p : Int), vI 0] rfl)) : Fz τ (fun id => σ id = none) _ _).wk h (fun _ h => h), rfl, rfl⟩
  rw [List.drop_zero, List.take_of_length_le (by simp)]
  exact .cons _ _ _ _ (fz_nd hv) (FzL.same _ (noid_nds ns))
theorem lenNs (l : List Nd) : lenV false (encNs l) = some (.int .i64 (l.length : Int)) := by simp [encNs, lenV]
theorem srcNs (σ : Store) (l : List Nd) : srcRows σ 20 (encNs l) = some (l.map encN) := by simp [encNs, srcRows]
set_option maxRecDepth 100000 in
theorem gblock_c {l : List Tk} {k : Nat} (ih : NodesG l k) (hl : l.length ≤ 1000000) (p : Nat) (hp : p < l.length) (hk : l.length - p ≤ k + 1) : PFun Tryd.prog 95 [encL l, vI p] (encG (gblockR l p)) := fun σ => by
  refine Contract.of_runs Tryd.func95 e95 k95 (by simp [c95]) ?_
  refine Runs.mix 12 ?_
  have hi1 : inR .i64 ((p : Int) + 1) := inR_i64 (by omega) (by omega)
  have e1 : (p : Int) + 1 = ((p + 1 : Nat) : Int) := by omega
  (refine Runs.of_step Orc.nothing 300 ?_; simp -implicitDefEqProofs only [BB,seval,← decide_not,okind,vpre,vpure,intBin,intPre,strBin,strPre,popTo,argSlots,fldV,fldAV,subCells,idxVV,idxAAV,idxSV,sliceV,sliceSV,boundV,szIs,storeOp,storeS,setRowV,eff,extV,buildV,splice,eqSV,fitsL,eqCells,eqCell,minmaxV,capV,binBV,nilCheckV,bytesV,V.cells,V.stays,Orc.nothing,c95])
  refine effR_new fun id4 σ4 s4 a4 f4 => ?_
  simp -implicitDefEqProofs only [BB,seval,← decide_not,okind,vpre,vpure,intBin,intPre,strBin,strPre,popTo,argSlots,fldV,fldAV,subCells,idxVV,idxAAV,idxSV,sliceV,sliceSV,boundV,szIs,storeOp,storeS,setRowV,eff,extV,buildV,splice,eqSV,fitsL,eqCells,eqCell,minmaxV,capV,binBV,nilCheckV,bytesV,V.cells,V.stays,hi1]
  refine effR_new fun id5 σ5 s5 a5 f5 => ?_
  simp -implicitDefEqProofs only [BB,seval,← decide_not,okind,vpre,vpure,intBin,intPre,strBin,strPre,popTo,argSlots,fldV,fldAV,subCells,idxVV,idxAAV,idxSV,sliceV,sliceSV,boundV,szIs,storeOp,storeS,setRowV,eff,extV,buildV,splice,eqSV,fitsL,eqCells,eqCell,minmaxV,capV,binBV,nilCheckV,bytesV,V.cells,V.stays,a5]
  rw [e1]
  have hplain : (V.agg [.int .i64 0, .int .i64 0, .int .i64 0, .int .i64 0, .int .i64 0, .int .i64 2, .int .i64 2, .int .i64 0, .int .i64 0, .int .i64 0, .int .i64 0, .int .i64 0]) = .agg (plainS.map vI) := rfl
  rw [hplain]
  have hsub5 : SubStore σ (upd σ5 id5 (styR plainS)) := (s4.trans s5).updK (s4.none f5)
  have b4 : upd σ5 id5 (styR plainS) id4 = some (gotO (.agg [.nils, vI 0, vI 0])) := by rw [upd_ne (ne_new a4 f5)]; exact s5 _ _ a4
  have n45 : id4 ≠ id5 := ne_new a4 f5
  have inv0 : BInv (upd σ5 id5 (styR plainS)) (upd σ5 id5 (styR plainS)) id5 plainS := ⟨Off.refl _ _, upd_same, rfl⟩
  have f5' : σ id5 = none := s4.none f5
  generalize upd σ5 id5 (styR plainS) = K at *
  refine Runs.loop (fun m st => ∃ (told : List UInt8) (s : List Int) (q : Nat), m = l.length - q ∧ q ≤ l.length ∧ q = p + 1 + 2 * told.length ∧ attrsT (fun _ => true) plainS (l.drop (p + 1)) false = attrsT (avT told) s (l.drop q) false ∧
      BInv K st.σ id5 s ∧ st.s 0 = encL l ∧ st.s 1 = vI (q : Int) ∧ st.s 4 = .ptr id4 0 0 ∧ st.s 5 = .ptr id5 0 0 ∧ st.s 6 = .str told) (l.length - (p + 1))
      ⟨[], plainS, p + 1, rfl, by omega, rfl, by rw [avT_nil], inv0, rfl, rfl, rfl, rfl, rfl⟩ ?_
  rintro m ⟨S, σc⟩ ⟨told, s, q, rfl, hq, hqt, hat, inv, p0, p1, p4, p5, p6⟩
  simp only at inv p0 p1 p4 p5 p6
  refine Runs.mix 12 ?_
  have r5 := inv.r5
  have hsl := inv.len
  have hs4 : σc id4 = some (gotO (.agg [.nils, vI 0, vI 0])) := inv.off id4 n45 _ b4
  have hsubc : SubStore σ σc := fun j o ho => inv.off j (ne_new ho f5') _ (hsub5 _ _ ho)
  (refine Runs.of_step Orc.nothing 300 ?_; simp -implicitDefEqProofs only [BB,seval,effR_some,effD_some,← decide_not,okind,vpre,vpure,intBin,intPre,strBin,strPre,popTo,argSlots,fldV,fldAV,subCells,idxVV,idxAAV,idxSV,sliceV,sliceSV,boundV,szIs,storeOp,storeS,setRowV,eff,extV,buildV,splice,eqSV,fitsL,eqCells,eqCell,minmaxV,capV,binBV,nilCheckV,bytesV,V.cells,V.stays,Orc.nothing,p0,p1,p4,p5,p6])
  refine Runs.pcall rfl rfl rfl (gletter_c l q told (by omega) _) ?_
  rcases letter_is told (l.drop q) with ⟨h0, hst⟩ | ⟨t, r, b, sp, hd, hlet, hk1, hsg, hav, hsp, hb0⟩
  · rw [h0]
    have ha : attrsT (fun _ => true) plainS (l.drop (p + 1)) false = (s, l.drop q, false) := by rw [hat, hst s]
    have hgb : gblockR l p = toG l.length (toldS (.block s (nodesR l.length (l.drop q)).1)) (takeR 93 (nodesR l.length (l.drop q)).2.1 (nodesR l.length (l.drop q)).2.2) := by
      simp only [gblockR,ha,nodesT_false]
    rw [hgb]
    have hwf := nodesR_wf l.length (l.drop q)
    have hsuf := suffix_drop (suf_trans ⟨l.take q, (List.take_append_drop q l).symm⟩ (rest_suffix l.length (l.drop q) false))
    rw [nodesT_false] at hsuf
    clear hgb ha hat hst h0
    (refine Runs.of_step Orc.nothing 300 ?_; simp -implicitDefEqProofs only [BB,seval,effR_some,effD_some,← decide_not,okind,vpre,vpure,intBin,intPre,strBin,strPre,popTo,argSlots,fldV,fldAV,subCells,idxVV,idxAAV,idxSV,sliceV,sliceSV,boundV,szIs,storeOp,storeS,setRowV,eff,extV,buildV,splice,eqSV,fitsL,eqCells,eqCell,minmaxV,capV,binBV,nilCheckV,bytesV,V.cells,V.stays,Orc.nothing,p0,p1,p4,p5,p6])
    refine Runs.pcall rfl rfl rfl (ih q hq (by omega) _) ?_
    unfold gnodesR
    generalize nodesR l.length (l.drop q) = n at *
    obtain ⟨xs, rest, w⟩ := n
    simp only at hwf hsuf ⊢
    have hrl : rest.length ≤ l.length := by rw [List.length_drop] at hwf; omega
    have hns : (toldL xs).length ≤ 1000000 := by rw [List.length_drop] at hwf; omega
    cases w with
    | true =>
      have hg : toG l.length (toldL xs) (rest, true) = ([], l.length - rest.length, true) := rfl
      have hg2 : toG l.length (toldS (.block s xs)) (takeR 93 rest true) = ([], l.length - rest.length, true) := by rw [take_w]; rfl
      rw [hg, hg2]
      simp only [encG,if_true]
      (refine Runs.of_step Orc.nothing 300 ?_; simp -implicitDefEqProofs only [BB,seval,← decide_not,okind,vpre,vpure,intBin,intPre,strBin,strPre,popTo,argSlots,fldV,fldAV,subCells,idxVV,idxAAV,idxSV,sliceV,sliceSV,boundV,szIs,storeOp,storeS,setRowV,eff,extV,buildV,splice,eqSV,fitsL,eqCells,eqCell,minmaxV,capV,binBV,nilCheckV,bytesV,V.cells,V.stays,Orc.nothing])
      refine effR_new fun id10 σ10 s10 a10 f10 => ?_
      have g4 := s10 _ _ hs4
      have n10 : id4 ≠ id10 := ne_new hs4 f10
      have hc := encNs_cells []
      have hcs := encNs_stays []
      simp -implicitDefEqProofs only [BB,seval,← decide_not,okind,vpre,vpure,intBin,intPre,strBin,strPre,popTo,argSlots,fldV,fldAV,subCells,idxVV,idxAAV,idxSV,sliceV,sliceSV,boundV,szIs,storeOp,storeS,setRowV,eff,extV,buildV,splice,eqSV,fitsL,eqCells,eqCell,minmaxV,capV,binBV,nilCheckV,bytesV,V.cells,V.stays,p0,p4,hc,hcs,a10,g4,upd_ne n10,upd_ne n10.symm]
      exact RetV.pure (((hsubc.trans s10).updK (hsubc.none f10)).updK f4) rfl
    | false =>
      have hg : toG l.length (toldL xs) (rest, false) = (toldL xs, l.length - rest.length, false) := rfl
      rw [hg]
      simp only [encG,Bool.false_eq_true,if_false]
      generalize hatq : l.length - rest.length = at' at *
      have hat' : at' ≤ l.length := by omega
      (refine Runs.of_step Orc.nothing 300 ?_; simp -implicitDefEqProofs only [BB,seval,← decide_not,okind,vpre,vpure,intBin,intPre,strBin,strPre,popTo,argSlots,fldV,fldAV,subCells,idxVV,idxAAV,idxSV,sliceV,sliceSV,boundV,szIs,storeOp,storeS,setRowV,eff,extV,buildV,splice,eqSV,fitsL,eqCells,eqCell,minmaxV,capV,binBV,nilCheckV,bytesV,V.cells,V.stays,Orc.nothing])
      refine effR_new fun id10 σ10 s10 a10 f10 => ?_
      have g4 := s10 _ _ hs4
      have g5 := s10 _ _ r5
      have n10 : id4 ≠ id10 := ne_new hs4 f10
      have n105 : id5 ≠ id10 := ne_new r5 f10
      have hc := encNs_cells (toldL xs)
      have hcs := encNs_stays (toldL xs)
      have hln := lenNs (toldL xs)
      have hsr := fun σ => srcNs σ (toldL xs)
      generalize hvn : encNs (toldL xs) = vn at *
      simp -implicitDefEqProofs only [BB,seval,← decide_not,okind,vpre,vpure,intBin,intPre,strBin,strPre,popTo,argSlots,fldV,fldAV,subCells,idxVV,idxAAV,idxSV,sliceV,sliceSV,boundV,szIs,storeOp,storeS,setRowV,eff,extV,buildV,splice,eqSV,fitsL,eqCells,eqCell,minmaxV,capV,binBV,nilCheckV,bytesV,V.cells,V.stays,p0,p4,hc,hcs,a10]
      refine Runs.pcall rfl rfl rfl (gsign_c l at' 93 _) ?_
      rw [← hsuf]
      cases hs : signB 93 rest with
      | false =>
        have hg2 : toG l.length (toldS (.block s xs)) (takeR 93 rest false) = ([], at', true) := by
          rw [take_no hs, toG]; simp only [if_true,hatq]
        rw [hg2]
        (refine Runs.of_step Orc.nothing 300 ?_; simp -implicitDefEqProofs only [BB,seval,effR_some,effD_some,← decide_not,okind,vpre,vpure,intBin,intPre,strBin,strPre,popTo,argSlots,fldV,fldAV,subCells,idxVV,idxAAV,idxSV,sliceV,sliceSV,boundV,szIs,storeOp,storeS,setRowV,eff,extV,buildV,splice,eqSV,fitsL,eqCells,eqCell,minmaxV,capV,binBV,nilCheckV,bytesV,V.cells,V.stays,Orc.nothing,p0,p4,g4,upd_ne n10,upd_ne n10.symm])
        exact retG (((hsubc.trans s10).updK (hsubc.none f10)).updK f4)
      | true =>
        have hg2 : toG l.length (toldS (.block s xs)) (takeR 93 rest false) = (toldS (.block s xs), at' + 1, false) := by
          obtain ⟨h1, h2⟩ := takeR_yes hs
          rw [h1, toG]
          simp only [Bool.false_eq_true,if_false]
          congr 2; omega
        rw [hg2]
        have hin1 : inR .i64 ((1 : Int) + ((toldL xs).length : Int)) := inR_i64 (by omega) (by omega)
        have hin2 : inR .i64 ((at' : Int) + 1) := inR_i64 (by omega) (by omega)
        match s, hsl, r5, g5 with
        | [x0, x1, x2, x3, x4, x5, x6, x7, x8, x9, x10, x11], _, r5, g5 =>
          have g5 : σ10 id5 = some ⟨34, 12, [.agg [vI x0, vI x1, vI x2, vI x3, vI x4, vI x5, vI x6, vI x7, vI x8, vI x9, vI x10, vI x11]]⟩ := g5
          (refine Runs.of_step Orc.nothing 300 ?_; simp -implicitDefEqProofs only [BB,seval,← decide_not,okind,vpre,vpure,intBin,intPre,strBin,strPre,popTo,argSlots,fldV,fldAV,subCells,idxVV,idxAAV,idxSV,sliceV,sliceSV,boundV,szIs,storeOp,storeS,setRowV,eff,extV,buildV,splice,eqSV,fitsL,eqCells,eqCell,minmaxV,capV,binBV,nilCheckV,bytesV,V.cells,V.stays,Orc.nothing,p0,p1,p4,p5,g5,upd_ne n105,upd_ne n105.symm,hln,hin1])
          refine effR_new fun id11 σ11 s11 a11 f11 => ?_
          simp -implicitDefEqProofs only [BB,seval,← decide_not,okind,vpre,vpure,intBin,intPre,strBin,strPre,popTo,argSlots,fldV,fldAV,subCells,idxVV,idxAAV,idxSV,sliceV,sliceSV,boundV,szIs,storeOp,storeS,setRowV,eff,extV,buildV,splice,eqSV,fitsL,eqCells,eqCell,minmaxV,capV,binBV,nilCheckV,bytesV,V.cells,V.stays,a11]
          refine effD_new fun id77 σ77 s77 a77 f77 => ?_
          have f10' : σc id10 = none := f10
          have n1011 : id10 ≠ id11 := fun e => by
            have h : upd σ10 id10 _ id11 = none := f11
            rw [← e, upd_same] at h; cases h
          have f11' : σ10 id11 = none := by
            have h : upd σ10 id10 _ id11 = none := f11
            rw [upd_ne n1011.symm] at h; exact h
          have n411 : id4 ≠ id11 := ne_new g4 f11'
          generalize hK2 : upd σ11 id11 _ = K2 at *
          have k10 : K2 id10 = some (gotO (.agg [vn, vI at', vI 0])) := by rw [← hK2, upd_ne n1011]; exact s11 _ _ upd_same
          have k4 : K2 id4 = some (gotO (.agg [.nils, vI 0, vI 0])) := by rw [← hK2, upd_ne n411]; exact s11 _ _ (by rw [upd_ne n10]; exact g4)
          have a77' : σ77 id77 = some ⟨37, 20, [ndW { ndS (.block [x0, x1, x2, x3, x4, x5, x6, x7, x8, x9, x10, x11] xs) with size := 1 + ((toldL xs).length : Int) } .nils]⟩ := a77
          obtain ⟨idA, hda, hdA⟩ := (OutV.new (n := 1) rfl a77' f77).dst' (SubStore.refl _)
          have hb : (1 + (toldL xs).length) * 177 ≤ 140737488355328 := by omega
          have h10 := s77 _ _ k10
          simp -implicitDefEqProofs only [BB,seval,← decide_not,okind,vpre,vpure,intBin,intPre,strBin,strPre,popTo,argSlots,fldV,fldAV,subCells,idxVV,idxAAV,idxSV,sliceV,sliceSV,boundV,szIs,storeOp,storeS,setRowV,eff,extV,buildV,splice,eqSV,fitsL,eqCells,eqCell,minmaxV,capV,binBV,nilCheckV,bytesV,V.cells,V.stays,h10,hda,hsr,List.length_map,hb,hin2,hc,hcs]
          refine effD_put fun id80 σ80 s80 a80 f80 => ?_
          have q10 := keepA hdA s80 id10 _ (by rw [k10]; simp) h10
          have q4 := keepA hdA s80 id4 _ (by rw [k4]; simp) (s77 _ _ k4)
          simp -implicitDefEqProofs only [BB,seval,← decide_not,okind,vpre,vpure,intBin,intPre,strBin,strPre,popTo,argSlots,fldV,fldAV,subCells,idxVV,idxAAV,idxSV,sliceV,sliceSV,boundV,szIs,storeOp,storeS,setRowV,eff,extV,buildV,splice,eqSV,fitsL,eqCells,eqCell,minmaxV,capV,binBV,nilCheckV,bytesV,V.cells,V.stays,q10,q4,p4,hin2]
          have hK2s : SubStore σ K2 := by
            rw [← hK2]
            exact (((hsubc.trans s10).updK (hsubc.none f10')).trans s11).updK (by
              have h : upd σ10 id10 _ id11 = none := f11
              exact ((hsubc.trans s10).updK (hsubc.none f10')).none h)
          have sub80 : SubStore σ σ80 := fun j o ho => keepA hdA s80 j o (by rw [hK2s _ _ ho]; simp) (s77 _ _ (hK2s _ _ ho))
          have f80' : σ id80 = none := hK2s.none (s77.none f80)
          have n80 : id80 ≠ id4 := fun e => by rw [e, s77 _ _ k4] at f80; cases f80
          have hts : toldS (.block [x0, x1, x2, x3, x4, x5, x6, x7, x8, x9, x10, x11] xs) = { ndS (.block [x0, x1, x2, x3, x4, x5, x6, x7, x8, x9, x10, x11] xs) with size := 1 + ((toldL xs).length : Int) } :: toldL xs := by rw [toldS]
          rw [hts]
          exact retGR (v := .nils) (sub80.updK f4) (by rw [upd_ne n80]; exact a80) f80' (.nil 1) (by omega) (by omega)
  · rw [hlet]
    have hql : q < l.length := by
      apply Classical.byContradiction
      intro hn
      rw [List.drop_eq_nil_of_le (by omega)] at hd
      cases hd
    have hne : ((b.toNat : Int) ≠ 0) = True := by simpa using hb0
    (refine Runs.of_step Orc.nothing 300 ?_; simp -implicitDefEqProofs only [BB,seval,effR_some,effD_some,← decide_not,okind,vpre,vpure,intBin,intPre,strBin,strPre,popTo,argSlots,fldV,fldAV,subCells,idxVV,idxAAV,idxSV,sliceV,sliceSV,boundV,szIs,storeOp,storeS,setRowV,eff,extV,buildV,splice,eqSV,fitsL,eqCells,eqCell,minmaxV,capV,binBV,nilCheckV,bytesV,V.cells,V.stays,Orc.nothing,p0,p1,p6,hne])
    refine Runs.pcall rfl rfl rfl (gletter_c l q told (by omega) _) ?_
    rw [hlet]
    (refine Runs.of_step Orc.nothing 300 ?_; simp -implicitDefEqProofs only [BB,seval,effR_some,effD_some,← decide_not,okind,vpre,vpure,intBin,intPre,strBin,strPre,popTo,argSlots,fldV,fldAV,subCells,idxVV,idxAAV,idxSV,sliceV,sliceSV,boundV,szIs,storeOp,storeS,setRowV,eff,extV,buildV,splice,eqSV,fitsL,eqCells,eqCell,minmaxV,capV,binBV,nilCheckV,bytesV,V.cells,V.stays,Orc.nothing,p0,p1,p6])
    refine Runs.pcall rfl rfl rfl (glimits_c b.toNat _) ?_
    have hlim := (spec_some hsp).2
    rw [hsg] at hlim
    rw [hlim]
    have hiq : inR .i64 ((q : Int) + 1) := inR_i64 (by omega) (by omega)
    have eq1 : (q : Int) + 1 = ((q + 1 : Nat) : Int) := by omega
    (refine Runs.of_step Orc.nothing 300 ?_; simp -implicitDefEqProofs only [BB,seval,effR_some,effD_some,← decide_not,okind,vpre,vpure,intBin,intPre,strBin,strPre,popTo,argSlots,fldV,fldAV,subCells,idxVV,idxAAV,idxSV,sliceV,sliceSV,boundV,szIs,storeOp,storeS,setRowV,eff,extV,buildV,splice,eqSV,fitsL,eqCells,eqCell,minmaxV,capV,binBV,nilCheckV,bytesV,V.cells,V.stays,Orc.nothing,p0,p1,p6,hiq])
    rw [eq1]
    refine Runs.pcall rfl rfl rfl (gnum_c l (q + 1) _ _ _) ?_
    have hdq : l.drop (q + 1) = r := by
      have := List.drop_eq_getElem_cons hql
      rw [hd] at this
      exact (List.cons.inj this).2.symm
    have hstep := attrsT_step (s := s) (r := r) hk1 hav hsp
    have hT : attrsT (avT told) s (l.drop q) false = attrsR (avT told) s (t :: r) := by rw [hd]; rfl
    cases hn : numB sp.2.1 sp.2.2 (l.drop (q + 1)) with
    | false =>
      have hr : gblockR l p = ([], q + 1, true) := by
        have ha : (attrsT (fun _ => true) plainS (l.drop (p + 1)) false).2 = (l.drop (q + 1), true) := by
          rw [hat, hT, hstep, ← hdq, count_no hn]; rfl
        have ha' : attrsT (fun _ => true) plainS (l.drop (p + 1)) false = ((attrsT (fun _ => true) plainS (l.drop (p + 1)) false).1, l.drop (q + 1), true) := Prod.ext rfl ha
        unfold gblockR
        rw [ha']
        simp only [nodesT_true,take_w]
        exact toG_bad (by omega)
      rw [hr]
      (refine Runs.of_step Orc.nothing 300 ?_; simp -implicitDefEqProofs only [BB,seval,effR_some,effD_some,← decide_not,okind,vpre,vpure,intBin,intPre,strBin,strPre,popTo,argSlots,fldV,fldAV,subCells,idxVV,idxAAV,idxSV,sliceV,sliceSV,boundV,szIs,storeOp,storeS,setRowV,eff,extV,buildV,splice,eqSV,fitsL,eqCells,eqCell,minmaxV,capV,binBV,nilCheckV,bytesV,V.cells,V.stays,Orc.nothing,p0,p1,p4,hiq,hs4])
      rw [eq1]
      exact retG (hsubc.updK f4)
    | true =>
      have hq1 := numB_lt hn
      have hx := fun σ => idxT σ hq1
      rw [← eq1] at hx
      have hld := sload r5 hsl
      (refine Runs.of_step Orc.nothing 300 ?_; simp -implicitDefEqProofs only [BB,seval,effR_some,effD_some,← decide_not,okind,vpre,vpure,intBin,intPre,strBin,strPre,popTo,argSlots,fldV,fldAV,subCells,idxVV,idxAAV,idxSV,sliceV,sliceSV,boundV,szIs,storeOp,storeS,setRowV,eff,extV,buildV,splice,eqSV,fitsL,eqCells,eqCell,minmaxV,capV,binBV,nilCheckV,bytesV,V.cells,V.stays,Orc.nothing,p0,p1,p5,p6,hiq,hx,hld])
      have htn : (l[q + 1]).n = tokN l (q + 1) := by simp [tokN, hq1]
      refine Go.pcallG rfl rfl rfl (gwith_c s hsl b.toNat (l[q + 1]).n sp.1 sp.2.1 sp.2.2 (by rw [← hsg]; exact hsp)) ?_
      have hsl' : (s.set sp.1 (l[q + 1]).n).length = 12 := by rw [List.length_set]; exact hsl
      have hss := sstore r5 hsl hsl'
      (refine Go.of_step Orc.nothing 300 _ _ ?_; simp -implicitDefEqProofs only [BB,seval,← decide_not,okind,vpre,vpure,intBin,intPre,strBin,strPre,popTo,argSlots,fldV,fldAV,subCells,idxVV,idxAAV,idxSV,sliceV,sliceSV,boundV,szIs,storeOp,setRowV,eff,extV,buildV,splice,eqSV,fitsL,eqCells,eqCell,minmaxV,capV,binBV,nilCheckV,bytesV,V.cells,V.stays,Orc.nothing,p1,p5,p6,hss])
      refine effR_new fun id50 σ50 s50 a50 f50 => ?_
      have hbs : bytesV σ50 (.own id50 0 1) = some (.str [b]) := by simp [bytesV, a50, bytesOf, byteOf]
      have hpre : (told.length + [b].length ≤ 9223372036854775807) = True := by simp; omega
      have hin2 : inR .i64 ((q : Int) + 2) := inR_i64 (by omega) (by omega)
      simp -implicitDefEqProofs only [BB,seval,← decide_not,okind,vpre,vpure,intBin,intPre,strBin,strPre,popTo,argSlots,fldV,fldAV,subCells,idxVV,idxAAV,idxSV,sliceV,sliceSV,boundV,szIs,storeOp,storeS,setRowV,eff,extV,buildV,splice,eqSV,fitsL,eqCells,eqCell,minmaxV,capV,binBV,nilCheckV,V.cells,V.stays,p1,p5,p6,hbs,hpre,hin2]
      refine ⟨by omega, l.length - (q + 2), by omega, told ++ [b], s.set sp.1 (l[q + 1]).n, q + 2, rfl, by omega, by simp; omega, ?_, ?_, p0, by rw [show ((q + 2 : Nat) : Int) = (q : Int) + 2 by omega], p4, rfl⟩
      · have hc := count_yes hn
        rw [hat, hT, hstep, ← hdq, hc, ← htn, avT_snoc, hsg]
      · exact { off := inv.off.upd.sub s50, r5 := s50 _ _ upd_same, len := hsl' }
end Go.Vc
namespace Go.Vc
open Go.Proofs
def oneR (f : Nat) (l : List Tk) : Shp × RS :=
  if signB 91 l then
    let a := attrsT (fun _ => true) plainS l.tail false
    let n := nodesT f a.2.1 a.2.2
    (.block a.1 n.1, takeR 93 n.2.1 n.2.2)
  else if signB 40 l then (.text (textR l).1, (textR l).2)
  else if signB 123 l then (.box (boxR 125 l.tail false).1 (boxR 125 l.tail false).2.1, (boxR 125 l.tail false).2.2)
  else floatR l false
def beg (l : List Tk) : Prop := signB 91 l = true ∨ signB 40 l = true ∨ signB 123 l = true ∨ signB 60 l = true
theorem nodesR_one {f : Nat} {l : List Tk} (h : beg l) : nodesR (f + 1) l = ((oneR f l).1 :: (nodesT f (oneR f l).2.1 (oneR f l).2.2).1, (nodesT f (oneR f l).2.1 (oneR f l).2.2).2) := by
  rcases sign_cases l with q | ⟨q1, q2⟩ | ⟨q1, q2, q3⟩ | ⟨q1, q2, q3, q4⟩ | ⟨q1, q2, q3, q4⟩
  · rw [nodesR_block q, oneR, if_pos q]
  · rw [nodesR_text q1 q2, oneR, if_neg (by simp [q1]), if_pos q2]
  · rw [nodesR_box q1 q2 q3, oneR, if_neg (by simp [q1]), if_neg (by simp [q2]), if_pos q3]
  · rw [nodesR_float q1 q2 q3 q4, oneR, if_neg (by simp [q1]), if_neg (by simp [q2]), if_neg (by simp [q3])]
  · rcases h with h | h | h | h
    · rw [q1] at h; cases h
    · rw [q2] at h; cases h
    · rw [q3] at h; cases h
    · rw [q4] at h; cases h
theorem one_suffix {f : Nat} {l : List Tk} (h : beg l) : (∃ p, l = p ++ (oneR f l).2.1) ∧ (oneR f l).2.1.length < l.length := by
  rcases sign_cases l with q | ⟨q1, q2⟩ | ⟨q1, q2, q3⟩ | ⟨q1, q2, q3, q4⟩ | ⟨q1, q2, q3, q4⟩
  · rw [oneR, if_pos q]
    have h1 := attrsT_len (fun _ => true) plainS l.tail false
    have h2 := nodesT_len f (attrsT (fun _ => true) plainS l.tail false).2.1 (attrsT (fun _ => true) plainS l.tail false).2.2
    have h3 := takeR_len 93 (nodesT f (attrsT (fun _ => true) plainS l.tail false).2.1 (attrsT (fun _ => true) plainS l.tail false).2.2).2.1 (nodesT f (attrsT (fun _ => true) plainS l.tail false).2.1 (attrsT (fun _ => true) plainS l.tail false).2.2).2.2
    have h4 := (takeR_yes q).2
    exact ⟨suf_trans (tail_suffix l) (suf_trans (rest_suffix_attrs _ _ _ _ _ (Nat.le_refl _)) (suf_trans (rest_suffix f _ _) (rest_suffix_take 93 _ _))), by simp only; omega⟩
  · rw [oneR, if_neg (by simp [q1]), if_pos q2]
    have h1 := textR_len q2
    exact ⟨rest_suffix_text l, by simp only; omega⟩
  · rw [oneR, if_neg (by simp [q1]), if_neg (by simp [q2]), if_pos q3]
    have h1 := boxR_len 125 l.tail false
    have h4 := (takeR_yes q3).2
    exact ⟨suf_trans (tail_suffix l) (rest_suffix_box 125 _ _), by simp only; omega⟩
  · rw [oneR, if_neg (by simp [q1]), if_neg (by simp [q2]), if_neg (by simp [q3])]
    have h1 := floatR_len q4
    exact ⟨rest_suffix_float l, by omega⟩
  · rcases h with h | h | h | h
    · rw [q1] at h; cases h
    · rw [q2] at h; cases h
    · rw [q3] at h; cases h
    · rw [q4] at h; cases h
def goneR (l : List Tk) (p : Nat) : GR := toG l.length (toldS (oneR l.length (l.drop p)).1) (oneR l.length (l.drop p)).2
theorem tail_drop (l : List Tk) (p : Nat) : (l.drop p).tail = l.drop (p + 1) := by rw [List.tail_drop]
theorem wk_nil_nd (σ : Store) (k d : Int) : Wk σ σ (.agg [vI k, vI 1, vI 0, vI 0, vI 0, vI 0, vI 0, vI 0, vI 0, vI 0, vI 0, vI 0, vI 0, vI 0, vI 0, vI 0, .nils, vI d, vI 0, vI 0]) (encN ⟨k, 1, Sty.zero, 0, 0, [], d, 0, 0⟩) :=
  wk_nd (SubStore.refl σ) k 1 0 0 0 d 0 0 Sty.zero
theorem gbox_nil (l : List Tk) (p : Nat) (k d e : Int) (hp : p ≤ 1000000) : PFun Tryd.prog 97 [encL l, vI p, .agg [vI k, vI 1, vI 0, vI 0, vI 0, vI 0, vI 0, vI 0, vI 0, vI 0, vI 0, vI 0, vI 0, vI 0, vI 0, vI 0, .nils, vI d, vI 0, vI 0], .int .i32 e]
    (encG (gboxR l p ⟨k, 1, Sty.zero, 0, 0, [], d, 0, 0⟩ e)) := fun σ =>
  Contract.args (by simp only [WkL]; exact ⟨Wk.refl (SubStore.refl _) _, Wk.refl (SubStore.refl _) _, wk_nil_nd _ k d, Wk.refl (SubStore.refl _) _, trivial⟩) (gbox_c l p ⟨k, 1, Sty.zero, 0, 0, [], d, 0, 0⟩ e hp σ)
set_option maxRecDepth 100000 in
theorem gone_c {l : List Tk} {k : Nat} (ih : NodesG l k) (hl : l.length ≤ 1000000) (p : Nat) (hp : p < l.length) (hk : l.length - p ≤ k + 1) (hb : beg (l.drop p)) : PFun Tryd.prog 70 [encL l, vI p] (encG (goneR l p)) := fun σ => by
  refine Contract.of_runs Tryd.func70 e70 k70 (by simp [c70]) ?_
  refine Runs.mix 5 ?_
  have hi1 : inR .i64 ((p : Int) + 1) := inR_i64 (by omega) (by omega)
  have hi2 : inR .i64 ((p : Int) + 2) := inR_i64 (by omega) (by omega)
  have e1 : (p : Int) + 1 = ((p + 1 : Nat) : Int) := by omega
  have e2 : (p : Int) + 2 = ((p + 2 : Nat) : Int) := by omega
  (refine Runs.of_step Orc.nothing 300 ?_; simp -implicitDefEqProofs only [BB,seval,← decide_not,okind,vpre,vpure,intBin,intPre,strBin,strPre,popTo,argSlots,fldV,fldAV,subCells,idxVV,idxAAV,idxSV,sliceV,sliceSV,boundV,szIs,storeOp,storeS,setRowV,eff,extV,buildV,splice,eqSV,fitsL,eqCells,eqCell,minmaxV,capV,binBV,nilCheckV,bytesV,V.cells,V.stays,Orc.nothing,c70])
  refine effR_new fun id4 σ4 s4 a4 f4 => ?_
  simp -implicitDefEqProofs only [BB,seval,← decide_not,okind,vpre,vpure,intBin,intPre,strBin,strPre,popTo,argSlots,fldV,fldAV,subCells,idxVV,idxAAV,idxSV,sliceV,sliceSV,boundV,szIs,storeOp,storeS,setRowV,eff,extV,buildV,splice,eqSV,fitsL,eqCells,eqCell,minmaxV,capV,binBV,nilCheckV,bytesV,V.cells,V.stays]
  have fin : ∀ r : GR, RetV (.agg [encNs r.1, vI r.2.1, vI (if r.2.2 then 1 else 0)]) (upd σ4 id4 (gotO (.agg [encNs r.1, vI r.2.1, vI (if r.2.2 then 1 else 0)]))) fun r' σ' => r' = encG r ∧ σ' = σ := fun r => RetV.pure (s4.updK f4) rfl
  refine Runs.pcall rfl rfl rfl (gsign_c l p 91 _) ?_
  have hpc : ∀ r : GR, (encNs r.1).cells = [encNs r.1] ∧ (encNs r.1).stays = true := fun r => ⟨rfl, rfl⟩
  cases q1 : signB 91 (l.drop p) with
  | true =>
    have hg : goneR l p = gblockR l p := by
      rw [goneR, oneR, if_pos q1, gblockR, tail_drop]
    (refine Runs.of_step Orc.nothing 300 ?_; simp -implicitDefEqProofs only [BB,seval,effR_some,effD_some,← decide_not,okind,vpre,vpure,intBin,intPre,strBin,strPre,popTo,argSlots,fldV,fldAV,subCells,idxVV,idxAAV,idxSV,sliceV,sliceSV,boundV,szIs,storeOp,storeS,setRowV,eff,extV,buildV,splice,eqSV,fitsL,eqCells,eqCell,minmaxV,capV,binBV,nilCheckV,bytesV,V.cells,V.stays,Orc.nothing])
    refine Runs.pcall rfl rfl rfl (gblock_c ih hl p hp hk _) ?_
    rw [hg]
    have hf := fin (gblockR l p)
    have hc := hpc (gblockR l p)
    generalize gblockR l p = r at *
    unfold encG at *
    (refine Runs.of_step Orc.nothing 300 ?_; simp -implicitDefEqProofs only [BB,seval,effR_some,effD_some,← decide_not,okind,vpre,vpure,intBin,intPre,strBin,strPre,popTo,argSlots,fldV,fldAV,subCells,idxVV,idxAAV,idxSV,sliceV,sliceSV,boundV,szIs,storeOp,storeS,setRowV,eff,extV,buildV,splice,eqSV,fitsL,eqCells,eqCell,minmaxV,capV,binBV,nilCheckV,bytesV,V.cells,V.stays,Orc.nothing,a4,hc.1,hc.2])
    exact hf
  | false =>
    (refine Runs.of_step Orc.nothing 300 ?_; simp -implicitDefEqProofs only [BB,seval,effR_some,effD_some,← decide_not,okind,vpre,vpure,intBin,intPre,strBin,strPre,popTo,argSlots,fldV,fldAV,subCells,idxVV,idxAAV,idxSV,sliceV,sliceSV,boundV,szIs,storeOp,storeS,setRowV,eff,extV,buildV,splice,eqSV,fitsL,eqCells,eqCell,minmaxV,capV,binBV,nilCheckV,bytesV,V.cells,V.stays,Orc.nothing])
    refine Runs.pcall rfl rfl rfl (gsign_c l p 40 _) ?_
    cases q2 : signB 40 (l.drop p) with
    | true =>
      have hg : goneR l p = gtextR l p := by
        rw [goneR, oneR, if_neg (by simp [q1]), if_pos q2, gtext_eq l p q2]
        simp only [toldS]
      (refine Runs.of_step Orc.nothing 300 ?_; simp -implicitDefEqProofs only [BB,seval,effR_some,effD_some,← decide_not,okind,vpre,vpure,intBin,intPre,strBin,strPre,popTo,argSlots,fldV,fldAV,subCells,idxVV,idxAAV,idxSV,sliceV,sliceSV,boundV,szIs,storeOp,storeS,setRowV,eff,extV,buildV,splice,eqSV,fitsL,eqCells,eqCell,minmaxV,capV,binBV,nilCheckV,bytesV,V.cells,V.stays,Orc.nothing])
      refine Runs.pcall rfl rfl rfl (gtext_c l p (by omega) hl _) ?_
      rw [hg]
      have hf := fin (gtextR l p)
      have hc := hpc (gtextR l p)
      generalize gtextR l p = r at *
      unfold encG at *
      (refine Runs.of_step Orc.nothing 300 ?_; simp -implicitDefEqProofs only [BB,seval,effR_some,effD_some,← decide_not,okind,vpre,vpure,intBin,intPre,strBin,strPre,popTo,argSlots,fldV,fldAV,subCells,idxVV,idxAAV,idxSV,sliceV,sliceSV,boundV,szIs,storeOp,storeS,setRowV,eff,extV,buildV,splice,eqSV,fitsL,eqCells,eqCell,minmaxV,capV,binBV,nilCheckV,bytesV,V.cells,V.stays,Orc.nothing,a4,hc.1,hc.2])
      exact hf
    | false =>
      (refine Runs.of_step Orc.nothing 300 ?_; simp -implicitDefEqProofs only [BB,seval,effR_some,effD_some,← decide_not,okind,vpre,vpure,intBin,intPre,strBin,strPre,popTo,argSlots,fldV,fldAV,subCells,idxVV,idxAAV,idxSV,sliceV,sliceSV,boundV,szIs,storeOp,storeS,setRowV,eff,extV,buildV,splice,eqSV,fitsL,eqCells,eqCell,minmaxV,capV,binBV,nilCheckV,bytesV,V.cells,V.stays,Orc.nothing])
      refine Runs.pcall rfl rfl rfl (gsign_c l p 123 _) ?_
      cases q3 : signB 123 (l.drop p) with
      | true =>
        have hg : goneR l p = gboxR l (p + 1) ⟨3, 1, Sty.zero, 0, 0, [], 0, 0, 0⟩ 125 := by
          rw [goneR, oneR, if_neg (by simp [q1]), if_neg (by simp [q2]), if_pos q3, gbox_toG _ _ _ _ (by omega), tail_drop]
          simp only [toldS,ndS]
        (refine Runs.of_step Orc.nothing 300 ?_; simp -implicitDefEqProofs only [BB,seval,effR_some,effD_some,← decide_not,okind,vpre,vpure,intBin,intPre,strBin,strPre,popTo,argSlots,fldV,fldAV,subCells,idxVV,idxAAV,idxSV,sliceV,sliceSV,boundV,szIs,storeOp,storeS,setRowV,eff,extV,buildV,splice,eqSV,fitsL,eqCells,eqCell,minmaxV,capV,binBV,nilCheckV,bytesV,V.cells,V.stays,Orc.nothing,hi1])
        rw [e1]
        refine Runs.pcall rfl rfl rfl (gbox_nil l (p + 1) 3 0 125 (by omega) _) ?_
        rw [hg]
        have hf := fin (gboxR l (p + 1) ⟨3, 1, Sty.zero, 0, 0, [], 0, 0, 0⟩ 125)
        have hc := hpc (gboxR l (p + 1) ⟨3, 1, Sty.zero, 0, 0, [], 0, 0, 0⟩ 125)
        generalize gboxR l (p + 1) ⟨3, 1, Sty.zero, 0, 0, [], 0, 0, 0⟩ 125 = r at *
        unfold encG at *
        (refine Runs.of_step Orc.nothing 300 ?_; simp -implicitDefEqProofs only [BB,seval,effR_some,effD_some,← decide_not,okind,vpre,vpure,intBin,intPre,strBin,strPre,popTo,argSlots,fldV,fldAV,subCells,idxVV,idxAAV,idxSV,sliceV,sliceSV,boundV,szIs,storeOp,storeS,setRowV,eff,extV,buildV,splice,eqSV,fitsL,eqCells,eqCell,minmaxV,capV,binBV,nilCheckV,bytesV,V.cells,V.stays,Orc.nothing,a4,hc.1,hc.2])
        exact hf
      | false =>
        have q4 : signB 60 (l.drop p) = true := by
          rcases hb with h | h | h | h
          · rw [q1] at h; cases h
          · rw [q2] at h; cases h
          · rw [q3] at h; cases h
          · exact h
        have hfl : oneR l.length (l.drop p) = floatR (l.drop p) false := by rw [oneR, if_neg (by simp [q1]), if_neg (by simp [q2]), if_neg (by simp [q3])]
        (refine Runs.of_step Orc.nothing 300 ?_; simp -implicitDefEqProofs only [BB,seval,effR_some,effD_some,← decide_not,okind,vpre,vpure,intBin,intPre,strBin,strPre,popTo,argSlots,fldV,fldAV,subCells,idxVV,idxAAV,idxSV,sliceV,sliceSV,boundV,szIs,storeOp,storeS,setRowV,eff,extV,buildV,splice,eqSV,fitsL,eqCells,eqCell,minmaxV,capV,binBV,nilCheckV,bytesV,V.cells,V.stays,Orc.nothing,hi1])
        rw [e1]
        refine Runs.pcall rfl rfl rfl (gsign_c l (p + 1) 76 _) ?_
        have hfr : floatR (l.drop p) false = (.float (boxR 62 (takeR (if signB 82 (l.drop (p + 1)) then 82 else 76) (l.drop (p + 1)) false).1 (takeR (if signB 82 (l.drop (p + 1)) then 82 else 76) (l.drop (p + 1)) false).2).1
            (boxR 62 (takeR (if signB 82 (l.drop (p + 1)) then 82 else 76) (l.drop (p + 1)) false).1 (takeR (if signB 82 (l.drop (p + 1)) then 82 else 76) (l.drop (p + 1)) false).2).2.1 (if signB 82 (l.drop (p + 1)) then 2 else 1),
            (boxR 62 (takeR (if signB 82 (l.drop (p + 1)) then 82 else 76) (l.drop (p + 1)) false).1 (takeR (if signB 82 (l.drop (p + 1)) then 82 else 76) (l.drop (p + 1)) false).2).2.2) := by
          unfold floatR
          simp only [take_yes q4]
        cases q5 : signB 76 (l.drop (p + 1)) with
        | true =>
          have hp1 := signB_lt q5
          have q6 : signB 82 (l.drop (p + 1)) = false := by
            rw [List.drop_eq_getElem_cons hp1] at q5 ⊢
            simp only [signB,Bool.and_eq_true,decide_eq_true_eq] at q5
            simp [signB, q5.2]
          have hg : goneR l p = gboxR l (p + 2) ⟨4, 1, Sty.zero, 0, 0, [], 1, 0, 0⟩ 62 := by
            rw [goneR, hfl, hfr, q6, if_neg (by simp), take_yes q5, gbox_toG _ _ _ _ (by omega)]
            simp only [toldS,ndS,Bool.false_eq_true,if_false]
          (refine Runs.of_step Orc.nothing 300 ?_; simp -implicitDefEqProofs only [BB,seval,effR_some,effD_some,← decide_not,okind,vpre,vpure,intBin,intPre,strBin,strPre,popTo,argSlots,fldV,fldAV,subCells,idxVV,idxAAV,idxSV,sliceV,sliceSV,boundV,szIs,storeOp,storeS,setRowV,eff,extV,buildV,splice,eqSV,fitsL,eqCells,eqCell,minmaxV,capV,binBV,nilCheckV,bytesV,V.cells,V.stays,Orc.nothing,hi2])
          rw [e2]
          refine Runs.pcall rfl rfl rfl (gbox_nil l (p + 2) 4 1 62 (by omega) _) ?_
          rw [hg]
          have hf := fin (gboxR l (p + 2) ⟨4, 1, Sty.zero, 0, 0, [], 1, 0, 0⟩ 62)
          have hc := hpc (gboxR l (p + 2) ⟨4, 1, Sty.zero, 0, 0, [], 1, 0, 0⟩ 62)
          generalize gboxR l (p + 2) ⟨4, 1, Sty.zero, 0, 0, [], 1, 0, 0⟩ 62 = r at *
          unfold encG at *
          (refine Runs.of_step Orc.nothing 300 ?_; simp -implicitDefEqProofs only [BB,seval,effR_some,effD_some,← decide_not,okind,vpre,vpure,intBin,intPre,strBin,strPre,popTo,argSlots,fldV,fldAV,subCells,idxVV,idxAAV,idxSV,sliceV,sliceSV,boundV,szIs,storeOp,storeS,setRowV,eff,extV,buildV,splice,eqSV,fitsL,eqCells,eqCell,minmaxV,capV,binBV,nilCheckV,bytesV,V.cells,V.stays,Orc.nothing,a4,hc.1,hc.2])
          exact hf
        | false =>
          (refine Runs.of_step Orc.nothing 300 ?_; simp -implicitDefEqProofs only [BB,seval,effR_some,effD_some,← decide_not,okind,vpre,vpure,intBin,intPre,strBin,strPre,popTo,argSlots,fldV,fldAV,subCells,idxVV,idxAAV,idxSV,sliceV,sliceSV,boundV,szIs,storeOp,storeS,setRowV,eff,extV,buildV,splice,eqSV,fitsL,eqCells,eqCell,minmaxV,capV,binBV,nilCheckV,bytesV,V.cells,V.stays,Orc.nothing,hi1])
          rw [e1]
          refine Runs.pcall rfl rfl rfl (gsign_c l (p + 1) 82 _) ?_
          cases q6 : signB 82 (l.drop (p + 1)) with
          | true =>
            have hp1 := signB_lt q6
            have hg : goneR l p = gboxR l (p + 2) ⟨4, 1, Sty.zero, 0, 0, [], 2, 0, 0⟩ 62 := by
              rw [goneR, hfl, hfr, q6, if_pos rfl, take_yes q6, gbox_toG _ _ _ _ (by omega)]
              simp only [toldS,ndS,if_true]
            (refine Runs.of_step Orc.nothing 300 ?_; simp -implicitDefEqProofs only [BB,seval,effR_some,effD_some,← decide_not,okind,vpre,vpure,intBin,intPre,strBin,strPre,popTo,argSlots,fldV,fldAV,subCells,idxVV,idxAAV,idxSV,sliceV,sliceSV,boundV,szIs,storeOp,storeS,setRowV,eff,extV,buildV,splice,eqSV,fitsL,eqCells,eqCell,minmaxV,capV,binBV,nilCheckV,bytesV,V.cells,V.stays,Orc.nothing,hi2])
            rw [e2]
            refine Runs.pcall rfl rfl rfl (gbox_nil l (p + 2) 4 2 62 (by omega) _) ?_
            rw [hg]
            have hf := fin (gboxR l (p + 2) ⟨4, 1, Sty.zero, 0, 0, [], 2, 0, 0⟩ 62)
            have hc := hpc (gboxR l (p + 2) ⟨4, 1, Sty.zero, 0, 0, [], 2, 0, 0⟩ 62)
            generalize gboxR l (p + 2) ⟨4, 1, Sty.zero, 0, 0, [], 2, 0, 0⟩ 62 = r at *
            unfold encG at *
            (refine Runs.of_step Orc.nothing 300 ?_; simp -implicitDefEqProofs only [BB,seval,effR_some,effD_some,← decide_not,okind,vpre,vpure,intBin,intPre,strBin,strPre,popTo,argSlots,fldV,fldAV,subCells,idxVV,idxAAV,idxSV,sliceV,sliceSV,boundV,szIs,storeOp,storeS,setRowV,eff,extV,buildV,splice,eqSV,fitsL,eqCells,eqCell,minmaxV,capV,binBV,nilCheckV,bytesV,V.cells,V.stays,Orc.nothing,a4,hc.1,hc.2])
            exact hf
          | false =>
            have hg : goneR l p = ([], p + 1, true) := by
              have hbw : ∀ (l : List Tk), (boxR 62 l true).2.2 = (l, true) := fun l => by
                unfold boxR
                simp only [count_w,take_w]
              rw [goneR, hfl, hfr, q6, if_neg (by simp), take_no q5]
              simp only [hbw]
              exact toG_bad (by omega)
            rw [hg]
            (refine Runs.of_step Orc.nothing 300 ?_; simp -implicitDefEqProofs only [BB,seval,effR_some,effD_some,← decide_not,okind,vpre,vpure,intBin,intPre,strBin,strPre,popTo,argSlots,fldV,fldAV,subCells,idxVV,idxAAV,idxSV,sliceV,sliceSV,boundV,szIs,storeOp,storeS,setRowV,eff,extV,buildV,splice,eqSV,fitsL,eqCells,eqCell,minmaxV,capV,binBV,nilCheckV,bytesV,V.cells,V.stays,Orc.nothing,a4,hi1])
            rw [e1]
            exact retG (s4.updK f4)
end Go.Vc
namespace Go.Vc
open Go.Proofs
structure GInv (K σ : Store) (id5 : Nat) (v : V) (ns : List Nd) (q : Nat) : Prop where
  off : Off id5 K σ
  r5 : σ id5 = some (gotO (.agg [v, vI (q : Int), vI 0]))
  out : OutV K σ 37 20 v (ns.map encN)
theorem beg_lt {l : List Tk} {q : Nat} (h : beg (l.drop q)) : q < l.length := by
  rcases h with h | h | h | h <;> exact signB_lt h
theorem gstore0 {σ : Store} {id5 : Nat} {v w : V} {q : Int} (h : σ id5 = some (gotO (.agg [v, vI q, vI 0]))) (hw : w.cells = [w]) (hs : w.stays = true) : storeS σ 1 (.ptr id5 0 0) w = some (upd σ id5 (gotO (.agg [w, vI q, vI 0]))) := by
  simp only [storeS,h,List.getElem?_cons_zero]
  have : setRowV (.agg [v, vI q, vI 0]) 0 1 w = some (.agg [w, vI q, vI 0]) := by
    unfold setRowV
    rw [if_pos ⟨by rw [hw]; rfl, hs⟩, if_neg (by simp [V.cells]), if_pos (by simp [V.cells])]
    rw [hw]
    rfl
  rw [this]
  rfl
theorem gstore1 {σ : Store} {id5 : Nat} {v : V} {q a : Int} (h : σ id5 = some (gotO (.agg [v, vI q, vI 0]))) : storeS σ 1 (.ptr id5 0 1) (vI a) = some (upd σ id5 (gotO (.agg [v, vI a, vI 0]))) := by
  simp only [storeS,h,List.getElem?_cons_zero]
  have : setRowV (.agg [v, vI q, vI 0]) 1 1 (vI a) = some (.agg [v, vI a, vI 0]) := by
    unfold setRowV
    rw [if_pos ⟨rfl, rfl⟩, if_neg (by simp [V.cells]), if_pos (by simp [V.cells])]
    rfl
  rw [this]
  rfl
set_option maxRecDepth 100000 in
theorem gnodes_c {l : List Tk} (hl : l.length ≤ 1000000) : ∀ k, NodesG l k := by
  intro k
  induction k with
  | zero =>
    -- at the end
    intro p hp hk σ
    have hd : l.drop p = [] := List.drop_eq_nil_of_le (by omega)
    have hg : gnodesR l p = ([], p, false) := by
      rw [gnodesR, hd, nodesR_none rfl rfl rfl rfl, ← hd]
      exact toG_at (by omega)
    rw [hg]
    refine Contract.of_runs Tryd.func37 e37 k37 (by simp [c37]) ?_
    refine Runs.mix 7 ?_
    (refine Runs.of_step Orc.nothing 300 ?_; simp -implicitDefEqProofs only [BB,seval,← decide_not,okind,vpre,vpure,intBin,intPre,strBin,strPre,popTo,argSlots,fldV,fldAV,subCells,idxVV,idxAAV,idxSV,sliceV,sliceSV,boundV,szIs,storeOp,storeS,setRowV,eff,extV,buildV,splice,eqSV,fitsL,eqCells,eqCell,minmaxV,capV,binBV,nilCheckV,bytesV,V.cells,V.stays,Orc.nothing,c37])
    refine effR_new fun id4 σ4 s4 a4 f4 => ?_
    simp -implicitDefEqProofs only [BB,seval,← decide_not,okind,vpre,vpure,intBin,intPre,strBin,strPre,popTo,argSlots,fldV,fldAV,subCells,idxVV,idxAAV,idxSV,sliceV,sliceSV,boundV,szIs,storeOp,storeS,setRowV,eff,extV,buildV,splice,eqSV,fitsL,eqCells,eqCell,minmaxV,capV,binBV,nilCheckV,bytesV,V.cells,V.stays]
    refine effR_new fun id5 σ5 s5 a5 f5 => ?_
    simp -implicitDefEqProofs only [BB,seval,← decide_not,okind,vpre,vpure,intBin,intPre,strBin,strPre,popTo,argSlots,fldV,fldAV,subCells,idxVV,idxAAV,idxSV,sliceV,sliceSV,boundV,szIs,storeOp,storeS,setRowV,eff,extV,buildV,splice,eqSV,fitsL,eqCells,eqCell,minmaxV,capV,binBV,nilCheckV,bytesV,V.cells,V.stays,a5]
    have n45 : id4 ≠ id5 := ne_new a4 f5
    have g4 := s5 _ _ a4
    have hsub : SubStore σ (upd σ5 id5 (gotO (.agg [.nils, vI p, vI 0]))) := (s4.trans s5).updK (s4.none f5)
    refine Runs.loop (fun m st => m = 0 ∧ st.σ = upd σ5 id5 (gotO (.agg [.nils, vI p, vI 0])) ∧ st.s 0 = encL l ∧ st.s 4 = .ptr id4 0 0 ∧ st.s 5 = .ptr id5 0 0) 0 ⟨rfl, rfl, rfl, rfl, rfl⟩ ?_
    rintro m ⟨S, σc⟩ ⟨rfl, hσ, p0, p4, p5⟩
    simp only at hσ p0 p4 p5
    refine Runs.mix 7 ?_
    have r5 : σc id5 = some (gotO (.agg [.nils, vI p, vI 0])) := by rw [hσ]; exact upd_same
    have r4 : σc id4 = some (gotO (.agg [.nils, vI 0, vI 0])) := by rw [hσ, upd_ne n45]; exact g4
    rw [← hσ] at hsub
    have sg : ∀ c, signB c (l.drop p) = false := fun c => by rw [hd]; rfl
    (refine Runs.of_step Orc.nothing 300 ?_; simp -implicitDefEqProofs only [BB,seval,effR_some,effD_some,← decide_not,okind,vpre,vpure,intBin,intPre,strBin,strPre,popTo,argSlots,fldV,fldAV,subCells,idxVV,idxAAV,idxSV,sliceV,sliceSV,boundV,szIs,storeOp,storeS,setRowV,eff,extV,buildV,splice,eqSV,fitsL,eqCells,eqCell,minmaxV,capV,binBV,nilCheckV,bytesV,V.cells,V.stays,Orc.nothing,p0,p5,r5])
    refine Runs.pcall rfl rfl rfl (gsign_c l p 91 _) ?_
    rw [sg]
    (refine Runs.of_step Orc.nothing 300 ?_; simp -implicitDefEqProofs only [BB,seval,effR_some,effD_some,← decide_not,okind,vpre,vpure,intBin,intPre,strBin,strPre,popTo,argSlots,fldV,fldAV,subCells,idxVV,idxAAV,idxSV,sliceV,sliceSV,boundV,szIs,storeOp,storeS,setRowV,eff,extV,buildV,splice,eqSV,fitsL,eqCells,eqCell,minmaxV,capV,binBV,nilCheckV,bytesV,V.cells,V.stays,Orc.nothing,p0,p5,r5])
    refine Runs.pcall rfl rfl rfl (gsign_c l p 40 _) ?_
    rw [sg]
    (refine Runs.of_step Orc.nothing 300 ?_; simp -implicitDefEqProofs only [BB,seval,effR_some,effD_some,← decide_not,okind,vpre,vpure,intBin,intPre,strBin,strPre,popTo,argSlots,fldV,fldAV,subCells,idxVV,idxAAV,idxSV,sliceV,sliceSV,boundV,szIs,storeOp,storeS,setRowV,eff,extV,buildV,splice,eqSV,fitsL,eqCells,eqCell,minmaxV,capV,binBV,nilCheckV,bytesV,V.cells,V.stays,Orc.nothing,p0,p5,r5])
    refine Runs.pcall rfl rfl rfl (gsign_c l p 123 _) ?_
    rw [sg]
    (refine Runs.of_step Orc.nothing 300 ?_; simp -implicitDefEqProofs only [BB,seval,effR_some,effD_some,← decide_not,okind,vpre,vpure,intBin,intPre,strBin,strPre,popTo,argSlots,fldV,fldAV,subCells,idxVV,idxAAV,idxSV,sliceV,sliceSV,boundV,szIs,storeOp,storeS,setRowV,eff,extV,buildV,splice,eqSV,fitsL,eqCells,eqCell,minmaxV,capV,binBV,nilCheckV,bytesV,V.cells,V.stays,Orc.nothing,p0,p5,r5])
    refine Runs.pcall rfl rfl rfl (gsign_c l p 60 _) ?_
    rw [sg]
    (refine Runs.of_step Orc.nothing 300 ?_; simp -implicitDefEqProofs only [BB,seval,effR_some,effD_some,← decide_not,okind,vpre,vpure,intBin,intPre,strBin,strPre,popTo,argSlots,fldV,fldAV,subCells,idxVV,idxAAV,idxSV,sliceV,sliceSV,boundV,szIs,storeOp,storeS,setRowV,eff,extV,buildV,splice,eqSV,fitsL,eqCells,eqCell,minmaxV,capV,binBV,nilCheckV,bytesV,V.cells,V.stays,Orc.nothing,p0,p4,p5,r5,r4])
    exact ⟨.agg [.sl 20 [], vI p, vI 0], σ, hsub.updK f4, Wk.agg (by simp only [WkL]; exact ⟨Wk.nils 20, Wk.refl (hsub.updK f4) _, Wk.refl (hsub.updK f4) _, trivial⟩), rfl, rfl⟩
  | succ k ih =>
    intro p hp hk σ
    refine Contract.of_runs Tryd.func37 e37 k37 (by simp [c37]) ?_
    refine Runs.mix 7 ?_
    (refine Runs.of_step Orc.nothing 300 ?_; simp -implicitDefEqProofs only [BB,seval,← decide_not,okind,vpre,vpure,intBin,intPre,strBin,strPre,popTo,argSlots,fldV,fldAV,subCells,idxVV,idxAAV,idxSV,sliceV,sliceSV,boundV,szIs,storeOp,storeS,setRowV,eff,extV,buildV,splice,eqSV,fitsL,eqCells,eqCell,minmaxV,capV,binBV,nilCheckV,bytesV,V.cells,V.stays,Orc.nothing,c37])
    refine effR_new fun id4 σ4 s4 a4 f4 => ?_
    simp -implicitDefEqProofs only [BB,seval,← decide_not,okind,vpre,vpure,intBin,intPre,strBin,strPre,popTo,argSlots,fldV,fldAV,subCells,idxVV,idxAAV,idxSV,sliceV,sliceSV,boundV,szIs,storeOp,storeS,setRowV,eff,extV,buildV,splice,eqSV,fitsL,eqCells,eqCell,minmaxV,capV,binBV,nilCheckV,bytesV,V.cells,V.stays]
    refine effR_new fun id5 σ5 s5 a5 f5 => ?_
    simp -implicitDefEqProofs only [BB,seval,← decide_not,okind,vpre,vpure,intBin,intPre,strBin,strPre,popTo,argSlots,fldV,fldAV,subCells,idxVV,idxAAV,idxSV,sliceV,sliceSV,boundV,szIs,storeOp,storeS,setRowV,eff,extV,buildV,splice,eqSV,fitsL,eqCells,eqCell,minmaxV,capV,binBV,nilCheckV,bytesV,V.cells,V.stays,a5]
    have n45 : id4 ≠ id5 := ne_new a4 f5
    have f5' : σ id5 = none := s4.none f5
    have hsub5 : SubStore σ (upd σ5 id5 (gotO (.agg [.nils, vI p, vI 0]))) := (s4.trans s5).updK f5'
    have b4 : upd σ5 id5 (gotO (.agg [.nils, vI p, vI 0])) id4 = some (gotO (.agg [.nils, vI 0, vI 0])) := by rw [upd_ne n45]; exact s5 _ _ a4
    have inv0 : GInv (upd σ5 id5 (gotO (.agg [.nils, vI p, vI 0]))) (upd σ5 id5 (gotO (.agg [.nils, vI p, vI 0]))) id5 .nils [] p := ⟨Off.refl _ _, upd_same, OutV.start⟩
    have hK5 : upd σ5 id5 (gotO (.agg [.nils, vI p, vI 0])) id5 ≠ none := by rw [upd_same]; simp
    generalize upd σ5 id5 (gotO (.agg [.nils, vI p, vI 0])) = K at *
    have hwf := (nodesR_wf l.length (l.drop p)).2
    rw [List.length_drop] at hwf
    refine Runs.loop (fun m st => ∃ (xs : List Shp) (q : Nat) (v : V), m = l.length - q ∧ p ≤ q ∧ q ≤ l.length ∧ nodesR l.length (l.drop p) = (xs ++ (nodesR l.length (l.drop q)).1, (nodesR l.length (l.drop q)).2) ∧
        GInv K st.σ id5 v (toldL xs) q ∧ st.s 0 = encL l ∧ st.s 4 = .ptr id4 0 0 ∧ st.s 5 = .ptr id5 0 0) (l.length - p)
        ⟨[], p, .nils, rfl, Nat.le_refl _, hp, rfl, inv0, rfl, rfl, rfl⟩ ?_
    rintro m ⟨S, σc⟩ ⟨xs, q, v, rfl, hpq, hql, hT, inv, p0, p4, p5⟩
    simp only at inv p0 p4 p5
    have r5 := inv.r5
    have hout := inv.out
    have r4 : σc id4 = some (gotO (.agg [.nils, vI 0, vI 0])) := inv.off id4 n45 _ b4
    have hsubc : SubStore σ σc := fun j o ho => inv.off j (ne_new ho f5') _ (hsub5 _ _ ho)
    (refine Runs.of_step Orc.nothing 1 ?_; simp -implicitDefEqProofs only [BB,seval,← decide_not,okind,vpre,vpure,intBin,intPre,strBin,strPre,popTo,argSlots,fldV,fldAV,subCells,idxVV,idxAAV,idxSV,sliceV,sliceSV,boundV,szIs,storeOp,storeS,setRowV,eff,extV,buildV,splice,eqSV,fitsL,eqCells,eqCell,minmaxV,capV,binBV,nilCheckV,bytesV,V.cells,V.stays,s_zero,Orc.nothing,p0])
    refine Runs.cut (fun st => beg (l.drop q) ∧ st.σ = σc ∧ st.s 0 = encL l ∧ st.s 4 = .ptr id4 0 0 ∧ st.s 5 = .ptr id5 0 0) ?_ ?_
    · refine Runs.mix 7 ?_
      (refine Runs.of_step Orc.nothing 300 ?_; simp -implicitDefEqProofs only [BB,seval,effR_some,effD_some,← decide_not,okind,vpre,vpure,intBin,intPre,strBin,strPre,popTo,argSlots,fldV,fldAV,subCells,idxVV,idxAAV,idxSV,sliceV,sliceSV,boundV,szIs,storeOp,storeS,setRowV,eff,extV,buildV,splice,eqSV,fitsL,eqCells,eqCell,minmaxV,capV,binBV,nilCheckV,bytesV,V.cells,V.stays,Orc.nothing,p0,p5,r5])
      refine Runs.pcall rfl rfl rfl (gsign_c l q 91 _) ?_
      cases q1 : signB 91 (l.drop q) with
      | true =>
        (refine Runs.of_step Orc.nothing 300 ?_; simp -implicitDefEqProofs only [BB,seval,effR_some,effD_some,← decide_not,okind,vpre,vpure,intBin,intPre,strBin,strPre,popTo,argSlots,fldV,fldAV,subCells,idxVV,idxAAV,idxSV,sliceV,sliceSV,boundV,szIs,storeOp,storeS,setRowV,eff,extV,buildV,splice,eqSV,fitsL,eqCells,eqCell,minmaxV,capV,binBV,nilCheckV,bytesV,V.cells,V.stays,Orc.nothing,p0,p4,p5])
        exact .inl q1
      | false =>
        (refine Runs.of_step Orc.nothing 300 ?_; simp -implicitDefEqProofs only [BB,seval,effR_some,effD_some,← decide_not,okind,vpre,vpure,intBin,intPre,strBin,strPre,popTo,argSlots,fldV,fldAV,subCells,idxVV,idxAAV,idxSV,sliceV,sliceSV,boundV,szIs,storeOp,storeS,setRowV,eff,extV,buildV,splice,eqSV,fitsL,eqCells,eqCell,minmaxV,capV,binBV,nilCheckV,bytesV,V.cells,V.stays,Orc.nothing,p0,p5,r5])
        refine Runs.pcall rfl rfl rfl (gsign_c l q 40 _) ?_
        cases q2 : signB 40 (l.drop q) with
        | true =>
          (refine Runs.of_step Orc.nothing 300 ?_; simp -implicitDefEqProofs only [BB,seval,effR_some,effD_some,← decide_not,okind,vpre,vpure,intBin,intPre,strBin,strPre,popTo,argSlots,fldV,fldAV,subCells,idxVV,idxAAV,idxSV,sliceV,sliceSV,boundV,szIs,storeOp,storeS,setRowV,eff,extV,buildV,splice,eqSV,fitsL,eqCells,eqCell,minmaxV,capV,binBV,nilCheckV,bytesV,V.cells,V.stays,Orc.nothing,p0,p4,p5])
          exact .inr (.inl q2)
        | false =>
          (refine Runs.of_step Orc.nothing 300 ?_; simp -implicitDefEqProofs only [BB,seval,effR_some,effD_some,← decide_not,okind,vpre,vpure,intBin,intPre,strBin,strPre,popTo,argSlots,fldV,fldAV,subCells,idxVV,idxAAV,idxSV,sliceV,sliceSV,boundV,szIs,storeOp,storeS,setRowV,eff,extV,buildV,splice,eqSV,fitsL,eqCells,eqCell,minmaxV,capV,binBV,nilCheckV,bytesV,V.cells,V.stays,Orc.nothing,p0,p5,r5])
          refine Runs.pcall rfl rfl rfl (gsign_c l q 123 _) ?_
          cases q3 : signB 123 (l.drop q) with
          | true =>
            (refine Runs.of_step Orc.nothing 300 ?_; simp -implicitDefEqProofs only [BB,seval,effR_some,effD_some,← decide_not,okind,vpre,vpure,intBin,intPre,strBin,strPre,popTo,argSlots,fldV,fldAV,subCells,idxVV,idxAAV,idxSV,sliceV,sliceSV,boundV,szIs,storeOp,storeS,setRowV,eff,extV,buildV,splice,eqSV,fitsL,eqCells,eqCell,minmaxV,capV,binBV,nilCheckV,bytesV,V.cells,V.stays,Orc.nothing,p0,p4,p5])
            exact .inr (.inr (.inl q3))
          | false =>
            (refine Runs.of_step Orc.nothing 300 ?_; simp -implicitDefEqProofs only [BB,seval,effR_some,effD_some,← decide_not,okind,vpre,vpure,intBin,intPre,strBin,strPre,popTo,argSlots,fldV,fldAV,subCells,idxVV,idxAAV,idxSV,sliceV,sliceSV,boundV,szIs,storeOp,storeS,setRowV,eff,extV,buildV,splice,eqSV,fitsL,eqCells,eqCell,minmaxV,capV,binBV,nilCheckV,bytesV,V.cells,V.stays,Orc.nothing,p0,p5,r5])
            refine Runs.pcall rfl rfl rfl (gsign_c l q 60 _) ?_
            cases q4 : signB 60 (l.drop q) with
            | true =>
              (refine Runs.of_step Orc.nothing 300 ?_; simp -implicitDefEqProofs only [BB,seval,effR_some,effD_some,← decide_not,okind,vpre,vpure,intBin,intPre,strBin,strPre,popTo,argSlots,fldV,fldAV,subCells,idxVV,idxAAV,idxSV,sliceV,sliceSV,boundV,szIs,storeOp,storeS,setRowV,eff,extV,buildV,splice,eqSV,fitsL,eqCells,eqCell,minmaxV,capV,binBV,nilCheckV,bytesV,V.cells,V.stays,Orc.nothing,p0,p4,p5])
              exact .inr (.inr (.inr q4))
            | false =>
              have hg : gnodesR l p = (toldL xs, q, false) := by
                rw [gnodesR, hT, nodesR_none q1 q2 q3 q4, List.append_nil]
                exact toG_at hql
              rw [hg]
              (refine Runs.of_step Orc.nothing 300 ?_; simp -implicitDefEqProofs only [BB,seval,effR_some,effD_some,← decide_not,okind,vpre,vpure,intBin,intPre,strBin,strPre,popTo,argSlots,fldV,fldAV,subCells,idxVV,idxAAV,idxSV,sliceV,sliceSV,boundV,szIs,storeOp,storeS,setRowV,eff,extV,buildV,splice,eqSV,fitsL,eqCells,eqCell,minmaxV,capV,binBV,nilCheckV,bytesV,V.cells,V.stays,Orc.nothing,p0,p4,p5,r5,r4])
              have hs := hsubc.updK (o := gotO (.agg [v, vI q, vI 0])) f4
              exact ⟨.agg [.sl 20 ((toldL xs).map encN), vI q, vI 0], σ, hs, Wk.agg (by simp only [WkL]; exact ⟨(hout.upd_ne (by rw [b4]; simp)).wk hsub5 hs, Wk.refl hs _, Wk.refl hs _, trivial⟩), rfl, rfl⟩
    · rintro ⟨S', σ'⟩ ⟨hbeg, hσ', p0, p4, p5⟩
      simp only at hσ' p0 p4 p5
      have hσ' := hσ'.symm
      subst hσ'
      have hq := beg_lt hbeg
      refine Runs.mix 7 ?_
      (refine Runs.of_step Orc.nothing 300 ?_; simp -implicitDefEqProofs only [BB,seval,effR_some,effD_some,← decide_not,okind,vpre,vpure,intBin,intPre,strBin,strPre,popTo,argSlots,fldV,fldAV,subCells,idxVV,idxAAV,idxSV,sliceV,sliceSV,boundV,szIs,storeOp,storeS,setRowV,eff,extV,buildV,splice,eqSV,fitsL,eqCells,eqCell,minmaxV,capV,binBV,nilCheckV,bytesV,V.cells,V.stays,Orc.nothing,p0,p5,r5])
      refine Runs.pcall rfl rfl rfl (gone_c ih hl q hq (by omega) hbeg _) ?_
      have hst : nodesR l.length (l.drop q) = ((oneR l.length (l.drop q)).1 :: (nodesT l.length (oneR l.length (l.drop q)).2.1 (oneR l.length (l.drop q)).2.2).1, (nodesT l.length (oneR l.length (l.drop q)).2.1 (oneR l.length (l.drop q)).2.2).2) := by
        rw [← nodesR_one hbeg]
        exact nodes_fuel l.length (l.drop q) false l.length (l.length + 1) (by simp) (by simp) (by simp; omega)
      obtain ⟨hsf, hlt⟩ := one_suffix (f := l.length) hbeg
      have hsuf := suffix_drop (suf_trans ⟨l.take q, (List.take_append_drop q l).symm⟩ hsf)
      rw [List.length_drop] at hlt
      unfold goneR
      generalize oneR l.length (l.drop q) = x at *
      obtain ⟨x, rest, w⟩ := x
      simp only at hst hlt hsuf ⊢
      cases w with
      | true =>
        rw [nodesT_true] at hst
        have hg : gnodesR l p = ([], l.length - rest.length, true) := by rw [gnodesR, hT, hst]; rfl
        have hg2 : toG l.length (toldS x) (rest, true) = ([], l.length - rest.length, true) := rfl
        rw [hg, hg2]
        simp only [encG,if_true]
        have hc := encNs_cells []
        have hcs := encNs_stays []
        (refine Runs.of_step Orc.nothing 300 ?_; simp -implicitDefEqProofs only [BB,seval,← decide_not,okind,vpre,vpure,intBin,intPre,strBin,strPre,popTo,argSlots,fldV,fldAV,subCells,idxVV,idxAAV,idxSV,sliceV,sliceSV,boundV,szIs,storeOp,storeS,setRowV,eff,extV,buildV,splice,eqSV,fitsL,eqCells,eqCell,minmaxV,capV,binBV,nilCheckV,bytesV,V.cells,V.stays,Orc.nothing])
        refine effR_new fun id6 σ6 s6 a6 f6 => ?_
        have g4 := s6 _ _ r4
        have n6 : id4 ≠ id6 := ne_new r4 f6
        simp -implicitDefEqProofs only [BB,seval,← decide_not,okind,vpre,vpure,intBin,intPre,strBin,strPre,popTo,argSlots,fldV,fldAV,subCells,idxVV,idxAAV,idxSV,sliceV,sliceSV,boundV,szIs,storeOp,storeS,setRowV,eff,extV,buildV,splice,eqSV,fitsL,eqCells,eqCell,minmaxV,capV,binBV,nilCheckV,bytesV,V.cells,V.stays,p4,a6,hc,hcs,g4,upd_ne n6,upd_ne n6.symm]
        exact RetV.pure (((hsubc.trans s6).updK (hsubc.none f6)).updK f4) rfl
      | false =>
        have hg2 : toG l.length (toldS x) (rest, false) = (toldS x, l.length - rest.length, false) := rfl
        rw [hg2]
        simp only [encG,Bool.false_eq_true,if_false]
        rw [nodesT_false] at hst
        have htot : (toldL xs).length + (toldS x).length ≤ 1000000 := by
          rw [hT, hst, toldL_append, toldL, List.length_append, List.length_append] at hwf
          omega
        generalize hatq : l.length - rest.length = at' at *
        have hc := encNs_cells (toldS x)
        have hcs := encNs_stays (toldS x)
        have hsr := fun σ => srcNs σ (toldS x)
        generalize hvn : encNs (toldS x) = vn at *
        (refine Runs.of_step Orc.nothing 300 ?_; simp -implicitDefEqProofs only [BB,seval,← decide_not,okind,vpre,vpure,intBin,intPre,strBin,strPre,popTo,argSlots,fldV,fldAV,subCells,idxVV,idxAAV,idxSV,sliceV,sliceSV,boundV,szIs,storeOp,storeS,setRowV,eff,extV,buildV,splice,eqSV,fitsL,eqCells,eqCell,minmaxV,capV,binBV,nilCheckV,bytesV,V.cells,V.stays,Orc.nothing])
        refine effR_new fun id6 σ6 s6 a6 f6 => ?_
        have g5 := s6 _ _ r5
        have n56 : id5 ≠ id6 := ne_new r5 f6
        have f6' : σc id6 = none := f6
        obtain ⟨idA, hda, hdA⟩ := hout.dst' (show SubStore σc (upd σ6 id6 (gotO (.agg [vn, vI at', vI 0]))) from s6.updK f6')
        have hb : ((toldL xs).length + (toldS x).length) * 177 ≤ 140737488355328 := by omega
        have hda' : dstRows (upd σ6 id6 ⟨64, 3, [.agg [vn, .int .i64 at', .int .i64 0]]⟩) 37 20 v = some ((toldL xs).map encN, idA) := hda
        simp -implicitDefEqProofs only [BB,seval,← decide_not,okind,vpre,vpure,intBin,intPre,strBin,strPre,popTo,argSlots,fldV,fldAV,subCells,idxVV,idxAAV,idxSV,sliceV,sliceSV,boundV,szIs,storeOp,storeS,setRowV,eff,extV,buildV,splice,eqSV,fitsL,eqCells,eqCell,minmaxV,capV,binBV,nilCheckV,bytesV,V.cells,V.stays,p0,p5,a6,hc,hcs,g5,upd_ne n56,upd_ne n56.symm,hda',hsr,List.length_map,hb]
        refine effR_put fun id43 σ43 s43 a43 f43 => ?_
        have q5 : σ43 id5 = some (gotO (.agg [v, vI q, vI 0])) := keepA hdA s43 id5 _ hK5 (by rw [upd_ne n56]; exact g5)
        have q6 : σ43 id6 = some (gotO (.agg [vn, vI at', vI 0])) := by
          refine s43 _ _ ?_
          cases hA : idA with
          | none => exact upd_same
          | some j =>
            obtain ⟨_, o, ho⟩ := hdA j hA
            have : id6 ≠ j := fun e => by rw [← e, f6'] at ho; cases ho
            show del _ j id6 = _
            rw [del_ne this, upd_same]
        have hst0 := gstore0 (w := .own id43 0 ((toldL xs).length + (toldS x).length)) q5 rfl rfl
        have hst1 := gstore1 (σ := upd σ43 id5 (gotO (.agg [.own id43 0 ((toldL xs).length + (toldS x).length), vI q, vI 0]))) (a := (at' : Int)) upd_same
        simp -implicitDefEqProofs only [BB,seval,← decide_not,okind,vpre,vpure,intBin,intPre,strBin,strPre,popTo,argSlots,fldV,fldAV,subCells,idxVV,idxAAV,idxSV,sliceV,sliceSV,boundV,szIs,storeOp,setRowV,eff,extV,buildV,splice,eqSV,fitsL,eqCells,eqCell,minmaxV,capV,binBV,nilCheckV,bytesV,V.cells,V.stays,p0,p4,p5,hst0,q6,upd_ne n56,upd_ne n56.symm,hst1]
        refine ⟨l.length - at', by omega, xs ++ [x], at', .own id43 0 ((toldL xs).length + (toldS x).length), rfl, by omega, by omega, ?_, ?_⟩
        · rw [hT, hst, ← hsuf]; simp
        · have f43' : σc id43 = none := (show SubStore σc (upd σ6 id6 _) from s6.updK f6').none f43
          have ht : toldL (xs ++ [x]) = toldL xs ++ toldS x := by rw [toldL_append]; simp [toldL]
          have n43 : id43 ≠ id5 := fun e => by rw [e, r5] at f43'; cases f43'
          exact {
            off := by
              refine Off.upd fun j hj o ho => keepA hdA s43 j o (by rw [ho]; simp) ?_
              rw [upd_ne (ne_new (inv.off j hj o ho) f6')]
              exact s6 _ _ (inv.off j hj o ho)
            r5 := upd_same
            out := by
              rw [ht, List.map_append]
              refine OutV.new (by simp) (by rw [upd_ne n43]; exact a43) (inv.off.none r5 f43') }
theorem gread_nodes {l : List Tk} (hl : l.length ≤ 1000000) : PFun Tryd.prog 37 [encL l, vI 0] (encG (gnodesR l 0)) := gnodes_c hl l.length 0 (by omega) (by omega)
end Go.Vc
namespace Go.Vc
open Go.Proofs
theorem readG_c (s : List UInt8) (hs : s.length ≤ 1000000) : PFun Tryd.prog 13 [.str s] (readV (readR s)) := fun σ => by
  refine Contract.of_runs Tryd.func13 e13 k13 (by simp [c13]) ?_
  refine Runs.mix 9 ?_
  have h36 := rof_c s hs σ
  (refine Runs.of_step Orc.nothing 300 ?_; simp -implicitDefEqProofs only [BB,seval,effR_some,effD_some,← decide_not,okind,vpre,vpure,intBin,intPre,strBin,strPre,popTo,argSlots,fldV,fldAV,subCells,idxVV,idxAAV,idxSV,sliceV,sliceSV,boundV,szIs,storeOp,storeS,setRowV,eff,extV,buildV,splice,eqSV,fitsL,eqCells,eqCell,minmaxV,capV,binBV,nilCheckV,bytesV,V.cells,V.stays,Orc.nothing,c13])
  refine Runs.pcall rfl rfl rfl h36 ?_
  cases hl : ofI s false 0 with
  | bad p =>
    have hr : readR s = ([], (p : Int), 1) := by rw [readR, hl]
    rw [hr]
    (refine Runs.of_step Orc.nothing 300 ?_; simp -implicitDefEqProofs only [BB,seval,effR_some,effD_some,← decide_not,okind,vpre,vpure,intBin,intPre,strBin,strPre,popTo,argSlots,fldV,fldAV,subCells,idxVV,idxAAV,idxSV,sliceV,sliceSV,boundV,szIs,storeOp,storeS,setRowV,eff,extV,buildV,splice,eqSV,fitsL,eqCells,eqCell,minmaxV,capV,binBV,nilCheckV,bytesV,V.cells,V.stays,Orc.nothing,resT])
    exact retE (SubStore.refl _)
  | ok l =>
    have hll := ofI_len hl
    have hR : resT (.ok l) = .tup [encL l, vI 0, vI 0] := rfl
    rw [hR]
    (refine Runs.of_step Orc.nothing 300 ?_; simp -implicitDefEqProofs only [BB,seval,effR_some,effD_some,← decide_not,okind,vpre,vpure,intBin,intPre,strBin,strPre,popTo,argSlots,fldV,fldAV,subCells,idxVV,idxAAV,idxSV,sliceV,sliceSV,boundV,szIs,storeOp,storeS,setRowV,eff,extV,buildV,splice,eqSV,fitsL,eqCells,eqCell,minmaxV,capV,binBV,nilCheckV,bytesV,V.cells,V.stays,Orc.nothing])
    refine Runs.pcall rfl rfl rfl (gread_nodes (l := l) (by omega) _) ?_
    have hsuf := rest_suffix l.length l false
    rw [nodesT_false] at hsuf
    have hsuf := suffix_drop hsuf
    unfold gnodesR
    rw [List.drop_zero]
    have hrd : readR s = match (nodesR l.length l).2.1 with
        | t :: _ => ([], t.at', 1)
        | [] => if (nodesR l.length l).2.2 then ([], (s.length : Int), 1) else (toldL (nodesR l.length l).1, 0, 0) := by
      rw [readR, hl]
      all_goals rfl
    generalize nodesR l.length l = n at *
    obtain ⟨xs, rest, w⟩ := n
    simp only at hsuf hrd ⊢
    have hll2 := lenT l
    have hgo : ∃ ns : List Nd, ∃ b : Int, encG (toG l.length (toldL xs) (rest, w)) = .agg [encNs ns, vI ((l.length - rest.length : Nat) : Int), vI b] ∧ b = (if w then 1 else 0) ∧ (w = false → ns = toldL xs) := by
      cases w with
      | true => exact ⟨[], 1, rfl, rfl, fun h => by cases h⟩
      | false => exact ⟨toldL xs, 0, rfl, rfl, fun _ => rfl⟩
    obtain ⟨ns, b, hgo, hb, hns⟩ := hgo
    rw [hgo]
    (refine Runs.of_step Orc.nothing 300 ?_; simp -implicitDefEqProofs only [BB,seval,← decide_not,okind,vpre,vpure,intBin,intPre,strBin,strPre,popTo,argSlots,fldV,fldAV,subCells,idxVV,idxAAV,idxSV,sliceV,sliceSV,boundV,szIs,storeOp,storeS,setRowV,eff,extV,buildV,splice,eqSV,fitsL,eqCells,eqCell,minmaxV,capV,binBV,nilCheckV,bytesV,V.cells,V.stays,Orc.nothing])
    refine effR_new fun id8 σ8 s8 a8 f8 => ?_
    have hc := encNs_cells ns
    have hcs := encNs_stays ns
    generalize hvn : encNs ns = vn at *
    cases hrest : rest with
    | cons t r =>
      rw [hrest] at hsuf hrd
      simp only at hrd
      have hlt : l.length - (t :: r).length < l.length := by
        apply Classical.byContradiction
        intro h
        rw [List.drop_eq_nil_of_le (by omega)] at hsuf
        cases hsuf
      have hx := fun σ => idxT σ hlt
      have ht : l[l.length - (t :: r).length] = t := by
        rw [List.drop_eq_getElem_cons hlt] at hsuf
        exact (List.cons.inj hsuf).1.symm
      rw [ht] at hx
      have hlt' : (((l.length - (t :: r).length : Nat) : Int) < (l.length : Int)) = True := by simp only [eq_iff_iff,iff_true]; omega
      rw [hrd]
      generalize l.length - (t :: r).length = k at *
      simp -implicitDefEqProofs only [BB,seval,← decide_not,okind,vpre,vpure,intBin,intPre,strBin,strPre,popTo,argSlots,fldV,fldAV,subCells,idxVV,idxAAV,idxSV,sliceV,sliceSV,boundV,szIs,storeOp,storeS,setRowV,eff,extV,buildV,splice,eqSV,fitsL,eqCells,eqCell,minmaxV,capV,binBV,nilCheckV,bytesV,V.cells,V.stays,a8,hc,hcs,hll2,hlt',hx]
      exact retE (s8.updK f8)
    | nil =>
      rw [hrest] at hrd
      simp only at hrd
      have hlt' : (((l.length - ([] : List Tk).length : Nat) : Int) < (l.length : Int)) = False := by simp
      rw [hrd]
      generalize l.length - ([] : List Tk).length = k at *
      cases w with
      | true =>
        simp only [if_true] at hb
        subst hb
        simp only [if_true]
        simp -implicitDefEqProofs only [BB,seval,← decide_not,okind,vpre,vpure,intBin,intPre,strBin,strPre,popTo,argSlots,fldV,fldAV,subCells,idxVV,idxAAV,idxSV,sliceV,sliceSV,boundV,szIs,storeOp,storeS,setRowV,eff,extV,buildV,splice,eqSV,fitsL,eqCells,eqCell,minmaxV,capV,binBV,nilCheckV,bytesV,V.cells,V.stays,a8,hc,hcs,hll2,hlt']
        exact retE (s8.updK f8)
      | false =>
        simp only [Bool.false_eq_true,if_false] at hb
        subst hb
        simp only [Bool.false_eq_true,if_false]
        rw [hns rfl] at hvn
        simp -implicitDefEqProofs only [BB,seval,← decide_not,okind,vpre,vpure,intBin,intPre,strBin,strPre,popTo,argSlots,fldV,fldAV,subCells,idxVV,idxAAV,idxSV,sliceV,sliceSV,boundV,szIs,storeOp,storeS,setRowV,eff,extV,buildV,splice,eqSV,fitsL,eqCells,eqCell,minmaxV,capV,binBV,nilCheckV,bytesV,V.cells,V.stays,a8,hc,hcs,hll2,hlt']
        rw [← hvn]
        exact RetV.pure (s8.updK f8) rfl
end Go.Vc
namespace Go.Vc
theorem nums_len : ∀ (l : List Tk), (numsR l).1.length + (numsR l).2.length = l.length
  | [] => rfl
  | t :: r => by
    have := nums_len r
    rw [numsR]
    split
    · simp only [List.length_cons]; omega
    · simp
theorem text_words {l : List Tk} (h : signB 40 l = true) : ((textR l).1.drop 2).length ≤ l.length := by
  unfold textR
  simp only
  obtain ⟨e, hl⟩ := takeR_yes h
  rw [e]
  simp only
  have h1 := count_len 1 MX l.tail false
  generalize countR 1 MX l.tail false = c1 at *
  have h2 := count_len 0 MX c1.2.1 c1.2.2
  generalize countR 0 MX c1.2.1 c1.2.2 = c2 at *
  have h3 := count_len 1 MX c2.2.1 c2.2.2
  generalize countR 1 MX c2.2.1 c2.2.2 = c3 at *
  have h4 := nums_len c3.2.1
  simp only [List.cons_append,List.nil_append,List.drop_succ_cons,List.drop_zero,List.length_cons]
  omega
theorem told_words : ∀ (f : Nat) (l : List Tk) (w : Bool), ∀ x ∈ toldL (nodesT f l w).1, x.words.length ≤ l.length
  | f, l, true => by intro x hx; cases hx
  | 0, l, false => by intro x hx; cases hx
  | f + 1, l, false => by
    intro x hx
    rw [nodesT_false] at hx
    rcases sign_cases l with q | ⟨q1, q2⟩ | ⟨q1, q2, q3⟩ | ⟨q1, q2, q3, q4⟩ | ⟨q1, q2, q3, q4⟩
    · rw [nodesR_block q] at hx
      have h0 := (takeR_yes q).2
      have h1 := (attrsT_len (fun _ => true) plainS l.tail false).2
      generalize attrsT (fun _ => true) plainS l.tail false = a at *
      have h2 := nodesT_len f a.2.1 a.2.2
      have i1 := told_words f a.2.1 a.2.2
      generalize nodesT f a.2.1 a.2.2 = n at *
      have h3 := takeR_len 93 n.2.1 n.2.2
      generalize takeR 93 n.2.1 n.2.2 = c at *
      have i2 := told_words f c.1 c.2
      rw [toldL, toldS, List.cons_append, List.mem_cons, List.mem_append] at hx
      rcases hx with rfl | hx | hx
      · simp [ndS]
      · have := i1 x hx; omega
      · have := i2 x hx; omega
    · rw [nodesR_text q1 q2] at hx
      have h0 := textR_len q2
      have h1 := text_words q2
      generalize textR l = a at *
      have i2 := told_words f a.2.1 a.2.2
      rw [toldL, toldS, List.cons_append, List.mem_cons, List.nil_append] at hx
      rcases hx with rfl | hx
      · exact h1
      · have := i2 x hx; omega
    · rw [nodesR_box q1 q2 q3] at hx
      have h0 := (takeR_yes q3).2
      have h1 := boxR_len 125 l.tail false
      generalize boxR 125 l.tail false = a at *
      have i2 := told_words f a.2.2.1 a.2.2.2
      rw [toldL, toldS, List.cons_append, List.mem_cons, List.nil_append] at hx
      rcases hx with rfl | hx
      · simp [ndS]
      · have := i2 x hx; omega
    · rw [nodesR_float q1 q2 q3 q4] at hx
      have h0 := floatR_len q4
      have hf : ∃ w h d, (floatR l false).1 = .float w h d := ⟨_, _, _, rfl⟩
      obtain ⟨w, h, d, hf⟩ := hf
      rw [hf] at hx
      generalize floatR l false = a at *
      have i2 := told_words f a.2.1 a.2.2
      rw [toldL, toldS, List.cons_append, List.mem_cons, List.nil_append] at hx
      rcases hx with rfl | hx
      · simp [ndS]
      · have := i2 x hx; omega
    · rw [nodesR_none q1 q2 q3 q4] at hx
      cases hx
theorem readR_fine {s : List UInt8} {n : Nat} (hs : s.length ≤ n) : (readR s).1.length ≤ n ∧ ∀ x ∈ (readR s).1, x.words.length ≤ n := by
  by_cases h : (readR s).2.2 = 0
  · obtain ⟨_, l, hl, hn, ht⟩ := readR_ok h
    have hll := ofI_len hl
    have hw := (nodesR_wf l.length l).2
    have hx := told_words l.length l false
    rw [nodesT_false] at hx
    rw [ht]
    exact ⟨by omega, fun x hm => by have := hx x hm; omega⟩
  · rw [(readR_bad h).1]
    exact ⟨by simp, by simp⟩
def loK (k : Nat) : Int := if k = 5 ∨ k = 6 then 1 else 0
def hiK (k : Nat) : Int := if k = 8 ∨ k = 9 then 4 else if k = 10 then 1 else if k = 11 then 3 else MX
def okL (s : List Int) : Prop := ∀ k v, s[k]? = some v → loK k ≤ v ∧ v ≤ hiK k
theorem okL_plain : okL plainS := by
  intro k v h
  have hk : k < 12 := (List.getElem?_eq_some_iff.1 h).1
  have : ∀ k, k < 12 → ∀ v, plainS[k]? = some v → loK k ≤ v ∧ v ≤ hiK k := by
    intro k hk
    match k, hk with
    | 0, _ | 1, _ | 2, _ | 3, _ | 4, _ | 5, _ | 6, _ | 7, _ | 8, _ | 9, _ | 10, _ | 11, _ =>
      intro v h
      simp only [plainS,List.getElem?_cons_zero,List.getElem?_cons_succ,Option.some.injEq] at h
      subst h
      decide
  exact this k hk v h
theorem spec_ok {c : Int} {k : Nat} {a b : Int} (h : spec c = some (k, a, b)) : loK k ≤ a ∧ b ≤ hiK k := by
  have h0 := (spec_some h).1
  obtain ⟨u, hu, rfl⟩ := h0
  have hb : u = 109 ∨ u = 110 ∨ u = 112 ∨ u = 113 ∨ u = 105 ∨ u = 111 ∨ u = 119 ∨ u = 104 ∨ u = 66 ∨ u = 65 ∨ u = 73 ∨ u = 99 := by simpa [lettersB] using hu
  rcases hb with rfl | rfl | rfl | rfl | rfl | rfl | rfl | rfl | rfl | rfl | rfl | rfl <;> (cases h; decide)
theorem numB_is {a b : Int} {t : Tk} {r : List Tk} (h : numB a b (t :: r) = true) : a ≤ t.n ∧ t.n ≤ b := by
  simp only [numB,Bool.and_eq_true,decide_eq_true_eq] at h
  omega
theorem count_is {a b : Int} {l : List Tk} {w : Bool} (h : (countR a b l w).2.2 = false) : a ≤ (countR a b l w).1 ∧ (countR a b l w).1 ≤ b := by
  cases l with
  | nil => simp [countR] at h
  | cons t r =>
    rw [countR] at h ⊢
    split at h
    · cases h
    · rename_i hn
      rw [if_neg hn]
      simp only [Bool.or_eq_true,Bool.not_eq_true',not_or,Bool.not_eq_true,Bool.not_eq_false] at hn
      exact numB_is hn.2
theorem okL_set {s : List Int} (h : okL s) {k : Nat} {v : Int} (hv : loK k ≤ v ∧ v ≤ hiK k) : okL (s.set k v) := by
  intro j u hu
  rw [List.getElem?_set] at hu
  split at hu
  · rename_i e
    subst e
    split at hu
    · simp only [Option.some.injEq] at hu; subst hu; exact hv
    · cases hu
  · exact h j u hu
theorem attrs_okL : ∀ (m : Nat) (l : List Tk) (av : Int → Bool) (s : List Int) (w : Bool), l.length ≤ m → okL s → (attrsT av s l w).2.2 = false → okL (attrsT av s l w).1 := by
  intro m
  induction m with
  | zero =>
    intro l av s w hm hs h
    have h0 : l = [] := List.length_eq_zero_iff.1 (by omega)
    subst h0
    cases w with
    | true => cases h
    | false => exact hs
  | succ m ih =>
    intro l av s w hm hs h
    cases w with
    | true => cases h
    | false =>
      cases l with
      | nil => exact hs
      | cons t l =>
        by_cases h1 : t.kind = 1
        · cases h3 : av t.sign with
          | false =>
            rw [attrsT, if_neg (by simp), attrsR, if_pos h1, h3]
            exact hs
          | true =>
            cases h4 : spec t.sign with
            | none =>
              rw [attrsT, if_neg (by simp), attrsR, if_pos h1, h3]
              simp only [if_true,h4]
              exact hs
            | some q =>
              obtain ⟨k, a, b⟩ := q
              rw [attrsT, if_neg (by simp), attrsT_step h1 h3 h4] at h ⊢
              have hl := count_len a b l false
              simp only [List.length_cons] at hm
              have hc : (countR a b l false).2.2 = false := by
                cases hc : (countR a b l false).2.2 with
                | false => rfl
                | true => rw [hc] at h; cases h
              have hv := count_is hc
              have hk := spec_ok h4
              exact ih _ _ _ _ (by omega) (okL_set hs (by omega)) h
        · rw [attrsT, if_neg (by simp), attrsR, if_neg h1]
          exact hs
theorem styL_ok {s : List Int} (hl : s.length = 12) (h : okL s) : (styL s).ok = true := by
  match s, hl with
  | [x0, x1, x2, x3, x4, x5, x6, x7, x8, x9, x10, x11], _ =>
    have g0 := h 0 x0 rfl
    have g1 := h 1 x1 rfl
    have g2 := h 2 x2 rfl
    have g3 := h 3 x3 rfl
    have g4 := h 4 x4 rfl
    have g5 := h 5 x5 rfl
    have g6 := h 6 x6 rfl
    have g7 := h 7 x7 rfl
    have g8 := h 8 x8 rfl
    have g9 := h 9 x9 rfl
    have g10 := h 10 x10 rfl
    have g11 := h 11 x11 rfl
    simp [loK, hiK] at g0 g1 g2 g3 g4 g5 g6 g7 g8 g9 g10 g11
    have hMX : MX = 1099511627776 := rfl
    simp [styL, Sty.ok, isFrom, mx]
    omega
theorem box_is {e : Int} {l : List Tk} {w : Bool} (h : (boxR e l w).2.2.2 = false) : isFrom (boxR e l w).1 1 mx = true ∧ isFrom (boxR e l w).2.1 1 mx = true := by
  unfold boxR at h ⊢
  simp only at h ⊢
  have w3 : (countR 1 MX (countR 1 MX l w).2.1 (countR 1 MX l w).2.2).2.2 = false := (take_ok (r := []) h).2.2
  have w2 : (countR 1 MX l w).2.2 = false := (count_ok (r := []) w3).2.2
  have h1 := count_is w2
  have h2 := count_is w3
  have hMX : MX = 1099511627776 := rfl
  simp [isFrom, mx]
  omega
theorem nums_are : ∀ (l : List Tk), (numsR l).1.all (isFrom · 1 mx) = true
  | [] => rfl
  | t :: r => by
    rw [numsR]
    split
    · rename_i hn
      have := numB_is hn
      rw [List.all_cons, nums_are r]
      simp [isFrom, mx]
      omega
    · rfl
theorem text_is {l : List Tk} (h : (textR l).2.2 = false) : (ndS (.text (textR l).1)).ok = true := by
  unfold textR at h ⊢
  simp only at h ⊢
  obtain ⟨_, _, w5⟩ := take_ok (r := []) h
  obtain ⟨_, _, w4⟩ := count_ok (r := []) w5
  obtain ⟨_, _, w3⟩ := count_ok (r := []) w4
  have h1 := count_is w5
  have h2 := count_is w4
  have h3 := count_is w3
  have h4 := nums_are (countR 1 MX (countR 0 MX (countR 1 MX (takeR 40 l false).1 (takeR 40 l false).2).2.1 (countR 1 MX (takeR 40 l false).1 (takeR 40 l false).2).2.2).2.1
    (countR 0 MX (countR 1 MX (takeR 40 l false).1 (takeR 40 l false).2).2.1 (countR 1 MX (takeR 40 l false).1 (takeR 40 l false).2).2.2).2.2).2.1
  generalize (numsR _).1 = ws at *
  generalize (countR 1 MX (countR 0 MX (countR 1 MX (takeR 40 l false).1 (takeR 40 l false).2).2.1 (countR 1 MX (takeR 40 l false).1 (takeR 40 l false).2).2.2).2.1 (countR 0 MX (countR 1 MX (takeR 40 l false).1 (takeR 40 l false).2).2.1 (countR 1 MX (takeR 40 l false).1 (takeR 40 l false).2).2.2).2.2).1 = c3 at *
  generalize (countR 0 MX (countR 1 MX (takeR 40 l false).1 (takeR 40 l false).2).2.1 (countR 1 MX (takeR 40 l false).1 (takeR 40 l false).2).2.2).1 = c2 at *
  generalize (countR 1 MX (takeR 40 l false).1 (takeR 40 l false).2).1 = c1 at *
  simp only [ndS,List.cons_append,List.nil_append,List.getD_cons_zero,List.getD_cons_succ,List.drop_succ_cons,List.drop_zero,Nd.ok]
  simp only [List.all_cons,h4,List.length_cons]
  have hMX : MX = 1099511627776 := rfl
  simp [isFrom, mx]
  omega
theorem float_ok2 (w v d : Int) (hw : isFrom w 1 mx = true) (hv : isFrom v 1 mx = true) (hd : d = 1 ∨ d = 2) : (ndS (.float w v d)).ok = true := by
  rcases hd with rfl | rfl <;> (simp [ndS, Nd.ok, isFrom] at hw hv ⊢; exact ⟨hw, hv⟩)
theorem float_is {l : List Tk} (h : (floatR l false).2.2 = false) : ∃ w v d, (floatR l false).1 = .float w v d ∧ (ndS (.float w v d)).ok = true := by
  unfold floatR at h ⊢
  simp only at h ⊢
  have hb := box_is h
  refine ⟨_, _, _, rfl, float_ok2 _ _ _ hb.1 hb.2 ?_⟩
  split
  · exact .inr rfl
  · exact .inl rfl
theorem nodesT_wf (f : Nat) (c : RS) (h : (nodesT f c.1 c.2).2.2 = false) : c.2 = false := by
  cases hc : c.2 with
  | false => rfl
  | true => rw [hc] at h; cases h
theorem ok_size {x : Nd} (h : x.kind = 1) (n : Int) : ({ x with size := n } : Nd).ok = x.ok := by simp [Nd.ok, h]
theorem told_ok : ∀ (f : Nat) (l : List Tk) (w : Bool), (nodesT f l w).2.2 = false → ∀ x ∈ toldL (nodesT f l w).1, x.ok = true
  | f, l, true => by intro h; cases h
  | 0, l, false => by intro h x hx; cases hx
  | f + 1, l, false => by
    intro h x hx
    rw [nodesT_false] at hx h
    rcases sign_cases l with q | ⟨q1, q2⟩ | ⟨q1, q2, q3⟩ | ⟨q1, q2, q3, q4⟩ | ⟨q1, q2, q3, q4⟩
    · rw [nodesR_block q] at hx h
      have hal := (attrsT_len (fun _ => true) plainS l.tail false).1
      have hok := attrs_okL _ l.tail (fun _ => true) plainS false (Nat.le_refl _) okL_plain
      generalize attrsT (fun _ => true) plainS l.tail false = a at *
      have i1 := told_ok f a.2.1 a.2.2
      have wn := nodesT_wf f a.2
      generalize nodesT f a.2.1 a.2.2 = n at *
      have ht := take_ok (c := 93) (l := n.2.1) (r := []) (w := n.2.2)
      generalize takeR 93 n.2.1 n.2.2 = c at *
      have i2 := told_ok f c.1 c.2 h
      have wc := nodesT_wf f c h
      have wt := (ht wc).2.2
      rw [toldL, toldS, List.cons_append, List.mem_cons, List.mem_append] at hx
      rcases hx with rfl | hx | hx
      · rw [ok_size rfl]
        have hs := styL_ok (by rw [hal]; rfl) (hok (wn wt))
        simp [ndS, Nd.ok, hs]
      · exact i1 wt x hx
      · exact i2 x hx
    · rw [nodesR_text q1 q2] at hx h
      have hti := text_is (l := l)
      generalize textR l = a at *
      have i2 := told_ok f a.2.1 a.2.2 h
      have wc := nodesT_wf f a.2 h
      rw [toldL, toldS, List.cons_append, List.mem_cons, List.nil_append] at hx
      rcases hx with rfl | hx
      · exact hti wc
      · exact i2 x hx
    · rw [nodesR_box q1 q2 q3] at hx h
      have hbi := box_is (e := 125) (l := l.tail) (w := false)
      generalize boxR 125 l.tail false = a at *
      have i2 := told_ok f a.2.2.1 a.2.2.2 h
      have wc := nodesT_wf f a.2.2 h
      rw [toldL, toldS, List.cons_append, List.mem_cons, List.nil_append] at hx
      rcases hx with rfl | hx
      · obtain ⟨g1, g2⟩ := hbi wc
        simp [ndS, Nd.ok, g1, g2]
      · exact i2 x hx
    · rw [nodesR_float q1 q2 q3 q4] at hx h
      have hfi := float_is (l := l)
      generalize floatR l false = a at *
      have i2 := told_ok f a.2.1 a.2.2 h
      have wc := nodesT_wf f a.2 h
      obtain ⟨w, v, d, e, hk⟩ := hfi wc
      rw [e] at hx
      rw [toldL, toldS, List.cons_append, List.mem_cons, List.nil_append] at hx
      rcases hx with rfl | hx
      · exact hk
      · exact i2 x hx
    · rw [nodesR_none q1 q2 q3 q4] at hx
      cases hx
theorem rowsB_told : ∀ (m : Nat) (xs : List Shp) (pre post : List Nd), (toldL xs).length ≤ m → rowsB (pre ++ toldL xs ++ post) pre.length (pre.length + (toldL xs).length) = true := by
  intro m
  induction m with
  | zero =>
    intro xs pre post h
    have : (toldL xs).length = 0 := by omega
    rw [this]
    exact rowsB_nil _ _
  | succ m ih =>
    intro xs pre post h
    cases xs with
    | nil => simp only [toldL,List.length_nil,Nat.add_zero]; exact rowsB_nil _ _
    | cons x xs =>
      obtain ⟨hd, inner, ht, hsz, hk⟩ : ∃ (hd : Nd) (inner : List Shp), toldS x = hd :: toldL inner ∧ hd.size = 1 + ((toldL inner).length : Int) ∧ (hd.kind = 1 ∨ inner = []) := by
        cases x with
        | box w h => exact ⟨_, [], rfl, rfl, .inr rfl⟩
        | block s i => exact ⟨_, i, by rw [toldS], rfl, .inl rfl⟩
        | text ns => exact ⟨_, [], rfl, rfl, .inr rfl⟩
        | float w h d => exact ⟨_, [], rfl, rfl, .inr rfl⟩
      rw [toldL, ht] at h ⊢
      simp only [List.cons_append,List.length_cons,List.length_append] at h ⊢
      have hget : (pre ++ hd :: (toldL inner ++ toldL xs) ++ post)[pre.length]? = some hd := by simp
      rw [rowsB, dif_pos (by omega), hget]
      simp only
      rw [dif_pos (by omega)]
      have e1 : pre.length + hd.size.toNat = pre.length + 1 + (toldL inner).length := by omega
      rw [e1]
      have i1 := ih inner (pre ++ [hd]) (toldL xs ++ post) (by omega)
      have i2 := ih xs (pre ++ hd :: toldL inner) post (by omega)
      have l1 : pre ++ [hd] ++ toldL inner ++ (toldL xs ++ post) = pre ++ hd :: (toldL inner ++ toldL xs) ++ post := by simp
      have l2 : pre ++ hd :: toldL inner ++ toldL xs ++ post = pre ++ hd :: (toldL inner ++ toldL xs) ++ post := by simp
      rw [l1] at i1
      rw [l2] at i2
      simp only [List.length_append,List.length_cons,List.length_nil] at i1 i2
      rw [show pre.length + (0 + 1) + (toldL inner).length = pre.length + 1 + (toldL inner).length by omega, show pre.length + (0 + 1) = pre.length + 1 by omega] at i1
      rw [show pre.length + ((toldL inner).length + 1) + (toldL xs).length = pre.length + ((toldL inner).length + (toldL xs).length + 1) by omega, show pre.length + ((toldL inner).length + 1) = pre.length + 1 + (toldL inner).length by omega] at i2
      rw [i1, i2]
      rcases hk with hk | rfl
      · simp [hk]
      · have : hd.size ≤ 1 := by simp [toldL] at hsz; omega
        simp [this]
theorem readR_isB {s : List UInt8} (h : (readR s).2.2 = 0) : isB (readR s).1 = true := by
  obtain ⟨_, l, hl, hn, ht⟩ := readR_ok h
  rw [ht]
  have h1 := told_ok l.length l false (by rw [nodesT_false, hn])
  rw [nodesT_false] at h1
  have h2 := rowsB_told _ (nodesR l.length l).1 [] [] (Nat.le_refl _)
  simp only [List.nil_append,List.append_nil,List.length_nil,Nat.zero_add] at h2
  simp only [isB,Bool.and_eq_true,List.all_eq_true]
  exact ⟨h1, h2⟩
end Go.Vc
namespace Go.Vc
def ofF : Nat → List UInt8 → Bool → Nat → Res
  | 0, _, _, _ => .ok []
  | f + 1, s, c, i =>
    if i < s.length then
      if sizeR s i = 0 then .bad i
      else if c then ofF f s (decide (byt s i ≠ 10)) (i + sizeR s i)
      else if byt s i = 35 then ofF f s true (i + 1)
      else if byt s i = 32 ∨ byt s i = 9 ∨ byt s i = 10 then ofF f s false (i + 1)
      else if 48 ≤ byt s i ∧ byt s i ≤ 57 then
        if numBad (digsAt s i) then .bad i
        else (ofF f s false (i + digLen (s.drop i))).cons ⟨2, 0, numR (digsAt s i), i⟩
      else (ofF f s false (i + sizeR s i)).cons ⟨1, runeR s i (sizeR s i), 0, i⟩
    else .ok []
theorem ofF_eq (s : List UInt8) : ∀ (f : Nat) (c : Bool) (i : Nat), s.length - i ≤ f → ofF f s c i = ofI s c i
  | 0, c, i, h => by rw [ofI_end (by omega)]; rfl
  | f + 1, c, i, h => by
    unfold ofF
    by_cases hlt : i < s.length
    · rw [if_pos hlt]
      by_cases hz : sizeR s i = 0
      · rw [if_pos hz, ofI_bad hlt hz]
      · rw [if_neg hz]
        cases c
        · rw [if_neg (by simp)]
          by_cases h35 : byt s i = 35
          · rw [if_pos h35, ofI_hash hlt hz h35, ofF_eq s f true (i + 1) (by omega)]
          · rw [if_neg h35]
            by_cases hw : byt s i = 32 ∨ byt s i = 9 ∨ byt s i = 10
            · rw [if_pos hw, ofI_white hlt hz hw, ofF_eq s f false (i + 1) (by omega)]
            · rw [if_neg hw]
              by_cases hd : 48 ≤ byt s i ∧ byt s i ≤ 57
              · have hdp := digLen_pos hd.1 hd.2
                rw [if_pos hd, ofI_num hlt hz hd, ofF_eq s f false _ (by omega)]
              · rw [if_neg hd, ofI_sign hlt hz (by omega), ofF_eq s f false _ (by omega)]
        · rw [if_pos rfl, ofI_com hlt hz, ofF_eq s f _ _ (by omega)]
    · rw [if_neg hlt, ofI_end hlt]
end Go.Vc
namespace Go.Vc
open Go.Proofs
def readF (s : List UInt8) : List Nd × Int × Int := match ofF s.length s false 0 with
  | .bad p => ([], p, 1)
  | .ok l => match (nodesR l.length l).2.1 with
    | t :: _ => ([], t.at', 1)
    | [] => if (nodesR l.length l).2.2 then ([], s.length, 1) else (toldL (nodesR l.length l).1, 0, 0)
theorem readF_eq (s : List UInt8) : readF s = readR s := by
  unfold readF readR
  rw [ofF_eq s s.length false 0 (by omega)]
  all_goals (cases ofI s false 0 <;> rfl)
def blkN (size top widows before : Int) : Nd := ⟨1, size, ⟨top, 0, 0, 0, 0, 2, widows, 0, before, 0, 0, 0⟩, 0, 0, [], 0, 0, 0⟩
end Go.Vc
namespace Go.Vc
def rowsF (l : List Nd) : Nat → Nat → Nat → Bool
  | 0, _, _ => true
  | m + 1, a, e => if a < e then
      match l[a]? with
      | none => false
      | some x => if 1 ≤ x.size ∧ x.size ≤ (e : Int) - a then
          (decide (x.kind = 1) || decide (x.size ≤ 1)) && rowsF l m (a + 1) (a + x.size.toNat) && rowsF l m (a + x.size.toNat) e else false
    else true
theorem rowsF_eq (l : List Nd) : ∀ m a e, e - a < m → rowsF l m a e = rowsB l a e
  | 0, _, _, h => by omega
  | m + 1, a, e, h => by
    rw [rowsF, rowsB]
    by_cases hlt : a < e
    · rw [if_pos hlt, dif_pos hlt]
      cases hx : l[a]? with
      | none => rfl
      | some x =>
        simp only
        by_cases hs : 1 ≤ x.size ∧ x.size ≤ (e : Int) - a
        · rw [if_pos hs, dif_pos hs, rowsF_eq l m _ _ (by omega), rowsF_eq l m _ _ (by omega)]
        · rw [if_neg hs, dif_neg hs]
    · rw [if_neg hlt, dif_neg hlt]
def isBF (l : List Nd) : Bool := l.all Nd.ok && rowsF l (l.length + 1) 0 l.length
theorem isB_F (l : List Nd) : isB l = isBF l := by rw [isB, isBF, rowsF_eq l _ _ _ (by omega)]
end Go.Vc
namespace Go.Vc
theorem isB_told {xs : List Shp} (h : ∀ x ∈ toldL xs, x.ok = true) : isB (toldL xs) = true := by
  have h2 := rowsB_told _ xs [] [] (Nat.le_refl _)
  simp only [List.nil_append,List.append_nil,List.length_nil,Nat.zero_add] at h2
  simp only [isB,Bool.and_eq_true,List.all_eq_true]
  exact ⟨h, h2⟩
theorem readR_shapes {s : List UInt8} (h : (readR s).2.2 = 0) : ∃ xs, (readR s).1 = toldL xs ∧ ∀ x ∈ toldL xs, x.ok = true := by
  obtain ⟨_, l, hl, hn, ht⟩ := readR_ok h
  have h1 := told_ok l.length l false (by rw [nodesT_false, hn])
  rw [nodesT_false] at h1
  exact ⟨_, ht, h1⟩
theorem told_split (xs : List Shp) (i : Nat) : toldL xs = toldL (xs.take i) ++ toldL (xs.drop i) := by rw [← toldL_append, List.take_append_drop]
theorem told_parts {xs : List Shp} (h : ∀ x ∈ toldL xs, x.ok = true) (i : Nat) : isB ((toldL xs).take (toldL (xs.take i)).length) = true ∧ isB ((toldL xs).drop (toldL (xs.take i)).length) = true := by
  have e := told_split xs i
  constructor
  · rw [e, List.take_left]
    exact isB_told fun x hx => h x (by rw [e]; exact List.mem_append.2 (.inl hx))
  · rw [e, List.drop_left]
    exact isB_told fun x hx => h x (by rw [e]; exact List.mem_append.2 (.inr hx))
theorem toldS_head (x : Shp) : ∃ hd tl, toldS x = hd :: tl ∧ hd.size = ((toldS x).length : Int) := by
  cases x with
  | box w h => exact ⟨_, [], rfl, rfl⟩
  | block s i => exact ⟨_, toldL i, by rw [toldS], by rw [toldS]; simp only [List.length_cons]; omega⟩
  | text ns => exact ⟨_, [], rfl, rfl⟩
  | float w h d => exact ⟨_, [], rfl, rfl⟩
theorem told_at {xs : List Shp} {i : Nat} (hi : i < xs.length) : ∃ hd, (toldL xs)[(toldL (xs.take i)).length]? = some hd ∧ (toldL (xs.take i)).length + hd.size.toNat = (toldL (xs.take (i + 1))).length ∧ 1 ≤ hd.size := by
  obtain ⟨hd, tl, h1, h2⟩ := toldS_head xs[i]
  have e := told_split xs i
  refine ⟨hd, ?_, ?_, ?_⟩
  · rw [e, List.getElem?_append_right (Nat.le_refl _), Nat.sub_self, List.drop_eq_getElem_cons hi, toldL, h1]
    rfl
  · rw [toldL_take hi, List.length_append, h2]; omega
  · rw [h2, h1]; simp only [List.length_cons]; omega
theorem foldR_nodes (l : List Nd) (s : Sm) : ∀ n, (foldR l s n).nodes = s.nodes
  | 0 => rfl
  | n + 1 => by
    rw [foldR]
    split
    · rw [depR]
      (repeat' split) <;> exact foldR_nodes l s n
    · exact foldR_nodes l s n
def sumF (l : List Nd) : Sm × Int := if isBF l then (foldR l ⟨0, 0, l.length, 0⟩ l.length, 0) else (⟨0, 0, 0, 0⟩, 4)
theorem sumR_F (l : List Nd) : sumR l = sumF l := by rw [sumR, sumF, isB_F]
def checkF (l : List Nd) : Int := if isBF l then (if (sumF l).1.depth > 16 ∨ (sumF l).1.pieces > 2000 ∨ (sumF l).1.nodes > 2000 ∨ (sumF l).1.heights > 1099511627776 then 2 else 0) else 4
theorem checkR_F (l : List Nd) : checkR l = checkF l := by rw [checkR, checkF, isB_F, sumR_F]
theorem sumR_nodes {l : List Nd} (h : isB l = true) : (sumR l).1.nodes = l.length ∧ (sumR l).2 = 0 := by
  rw [sumR, if_pos h]
  exact ⟨by rw [foldR_nodes], rfl⟩
theorem checkR_ok {l : List Nd} (h : isB l = true) : checkR l ≠ 4 := by
  rw [checkR, if_pos h]
  split <;> decide
end Go.Vc
namespace Go.Vc
mutual
/-- free of memory -/
def V.pv : V → Bool
  | .int .. | .bool _ | .str _ | .nils | .nilp | .nilfn | .niliface => true
  | .agg cs | .tup cs => pvL cs
  | .iface _ v => v.pv
  | _ => false
def pvL : List V → Bool
  | [] => true
  | v :: vs => v.pv && pvL vs
end
mutual
theorem Rep.pv {μ μ' : Mu} {ow ow' : Nat → Prop} {w w' : World} : ∀ {v : V} {x : Value}, v.pv = true → Rep μ ow w v x → Rep μ' ow' w' v x
  | .int .., _, _, h => by simpa [Rep] using h
  | .bool _, _, _, h => by simpa [Rep] using h
  | .str _, _, _, h => by simpa [Rep] using h
  | .nils, _, _, h => by simpa [Rep] using h
  | .nilp, _, _, h => by simpa [Rep] using h
  | .nilfn, _, _, h => by simpa [Rep] using h
  | .niliface, _, _, h => by simpa [Rep] using h
  | .agg cs, x, hv, h => by
    simp only [V.pv] at hv
    simp only [Rep] at h ⊢
    obtain ⟨vals, rfl, h1, h2⟩ := h
    exact ⟨vals, rfl, RepAll.pv hv h1, h2⟩
  | .tup cs, x, hv, h => by
    simp only [V.pv] at hv
    simp only [Rep] at h ⊢
    obtain ⟨vals, rfl, h1⟩ := h
    exact ⟨vals, rfl, RepAll.pv hv h1⟩
  | .iface t v, x, hv, h => by
    simp only [V.pv] at hv
    simp only [Rep] at h ⊢
    obtain ⟨y, rfl, h1⟩ := h
    exact ⟨y, rfl, Rep.pv hv h1⟩
  | .undef, _, hv, _ => by simp [V.pv] at hv
  | .sl .., _, hv, _ => by simp [V.pv] at hv
  | .own .., _, hv, _ => by simp [V.pv] at hv
  | .ptr .., _, hv, _ => by simp [V.pv] at hv
  | .rp _, _, hv, _ => by simp [V.pv] at hv
  | .fn .., _, hv, _ => by simp [V.pv] at hv
  | .raw _, _, hv, _ => by simp [V.pv] at hv
  | .obj _, _, hv, _ => by simp [V.pv] at hv
  | .gp _, _, hv, _ => by simp [V.pv] at hv
  | .yl _, _, hv, _ => by simp [V.pv] at hv
  | .mp _, _, hv, _ => by simp [V.pv] at hv
theorem RepAll.pv {μ μ' : Mu} {ow ow' : Nat → Prop} {w w' : World} : ∀ {vs : List V} {l : List Value}, pvL vs = true → RepAll μ ow w vs l → RepAll μ' ow' w' vs l
  | [], l, _, h => by simpa [RepAll] using h
  | u :: us, l, hv, h => by
    simp only [pvL, Bool.and_eq_true] at hv
    simp only [RepAll] at h ⊢
    obtain ⟨y, ys, rfl, h1, h2⟩ := h
    exact ⟨y, ys, rfl, Rep.pv hv.1 h1, RepAll.pv hv.2 h2⟩
end
theorem PFun.lend {P : Program} {f : FuncId} {args args' : List V} {v : V} {σ : Store} (hw : WkL σ nost args args') (h : PFun P f args' v) (hv : v.pv = true) :
    Contract P f args σ fun r σ' => r = v ∧ σ' = σ := by
  refine ⟨(h nost).1, ?_⟩
  intro μ w vals hs hr
  have hs0 : Sat w (Owned μ nost) μ nost w := by
    have := hs.drop (nost_sub σ)
    exact ⟨Nat.le_refl _, rfl, rfl, rfl, fun _ _ _ => rfl, this.fin, this.inj, this.obj, fun b hb _ => hb, this.globHere⟩
  refine ((h nost).2 μ w vals hs0 (WkL.all hs hw hr)).mono ?_
  rintro e w' ⟨r, σ', μ', val, rfl, ⟨rfl, rfl⟩, hle, hs', hrep⟩
  have hno : ∀ b, ¬ Owned μ nost b := fun b ⟨_, _, _, _, h, _⟩ => by simp [nost] at h
  have hsame : ∀ b, b < w.heap.size → w'.heap[b]? = w.heap[b]? := fun b hb => hs'.same b hb (hno b)
  have hborn : ∀ id o, σ id = some o → μ' id = μ id := fun id o ho => hle id (fun e => by
    have := hs.obj id o ho; rw [e] at this; exact this)
  have hown : ∀ b, Owned μ' σ b → Owned μ σ b := fun b ⟨id, o, sz, cap, h1, h2⟩ => ⟨id, o, sz, cap, h1, hborn id o h1 ▸ h2⟩
  have hk : Keeps (Owned μ σ) (Owned μ' σ) w w' := fun b hb hn => ⟨fun ho => hn (hown b ho), hsame b hb⟩
  refine ⟨_, σ, μ', val, rfl, ⟨rfl, rfl⟩, hle, ?_, Rep.pv hv hrep⟩
  refine ⟨hs'.size, hs'.os, hs'.tape, hs'.output, fun b hb _ => hsame b hb, hs'.fin, ?_, ?_, fun b hb _ => hown b hb, hs.glob⟩
  · intro id id' o o' b sz cap sz' cap' h1 h2 h3 h4
    exact hs.inj id id' o o' b sz cap sz' cap' h1 h2 (hborn id o h1 ▸ h3) (hborn id' o' h2 ▸ h4)
  · intro id o ho
    rw [hborn id o ho]
    refine (hs.obj id o ho).mono hle hk hs'.size fun b sz cap hp => hsame b ?_
    exact Owned.lt hs ⟨id, o, sz, cap, ho, hp⟩
end Go.Vc
namespace Go.Vc
open Go.Proofs
theorem lend_nodes {σ : Store} {id n : Nat} {rows : List V} {l : List Nd} (hn : n = rows.length) (ho : σ id = some ⟨37, 20, rows⟩) (hf : FzL σ (fun _ => True) rows (l.map encN)) : Wk σ nost (.own id 0 n) (encNs l) := by
  refine (Fz.own id 0 n ⟨_, 20, rows⟩ _ ho trivial (by simp [hn]) ?_ : Fz σ (fun _ => True) _ _).wk (nost_sub σ) (fun _ _ => rfl)
  rw [List.drop_zero, List.take_of_length_le (by simp [hn])]
  exact hf
theorem eqSm (s t : Sm) : eqSV false [0, 0, 0, 0] (.agg s.cells) (.agg t.cells) = some (.bool (decide (s = t))) := by
  have h2 : eqCells s.cells t.cells = some (decide (s = t)) := by
    cases s; cases t
    simp only [Sm.cells,eqCells,eqCell,if_true,Option.some.injEq,Bool.and_true]
    rw [Bool.eq_iff_iff]
    simp
  simp only [eqSV]
  rw [if_pos ⟨rfl, rfl⟩, h2]
  rfl
def countsB (l : List Nd) (s : Sm) : Bool := decide ((sumR l).1 = s) && (decide ((sumR l).2 = 0) && (isB l && decide (checkR l = 0)))
set_option maxRecDepth 100000 in
theorem counts_c (l : List Nd) (hl : Fine l) (s : Sm) : PFun Tryd.prog 46 [encNs l, .agg s.cells] (.bool (countsB l s)) := fun σ => by
  refine Contract.of_runs Tryd.func46 e46 k46 (by simp [c46]) ?_
  refine Runs.mix 8 ?_
  have hsc : (V.agg s.cells).cells.length = 4 := rfl
  (refine Runs.of_step Orc.nothing 300 ?_; simp -implicitDefEqProofs only [BB,seval,← decide_not,okind,vpre,vpure,intBin,intPre,strBin,strPre,popTo,argSlots,fldV,fldAV,subCells,idxVV,idxAAV,idxSV,sliceV,sliceSV,boundV,szIs,storeOp,storeS,setRowV,eff,extV,buildV,splice,eqSV,fitsL,eqCells,eqCell,minmaxV,capV,binBV,nilCheckV,bytesV,V.cells,V.stays,Orc.nothing,c46,hsc])
  refine effR_new fun id3 σ3 s3 a3 f3 => ?_
  simp -implicitDefEqProofs only [BB,seval,← decide_not,okind,vpre,vpure,intBin,intPre,strBin,strPre,popTo,argSlots,fldV,fldAV,subCells,idxVV,idxAAV,idxSV,sliceV,sliceSV,boundV,szIs,storeOp,storeS,setRowV,eff,extV,buildV,splice,eqSV,fitsL,eqCells,eqCell,minmaxV,capV,binBV,nilCheckV,bytesV,V.cells,V.stays]
  refine Runs.pcall rfl rfl rfl (countv_c l hl _) ?_
  have htc : (V.agg (sumR l).1.cells).cells.length = 4 := rfl
  have hl1 : (sumR l).1.cells.length = 4 := rfl
  have hl2 : s.cells.length = 4 := rfl
  have heq := eqSm (sumR l).1 s
  (refine Runs.of_step Orc.nothing 300 ?_; simp -implicitDefEqProofs only [BB,seval,← decide_not,okind,vpre,vpure,intBin,intPre,strBin,strPre,popTo,argSlots,fldV,fldAV,subCells,idxVV,idxAAV,idxSV,sliceV,sliceSV,boundV,szIs,storeOp,storeS,setRowV,eff,extV,buildV,splice,eqSV,fitsL,eqCells,eqCell,minmaxV,capV,binBV,nilCheckV,bytesV,V.cells,V.stays,Orc.nothing,htc,hl1])
  refine effR_new fun id5 σ5 s5 a5 f5 => ?_
  have n35 := ne_new a3 f5
  have b3 := s5 _ _ a3
  have hs : SubStore σ (upd σ5 id5 ⟨43, 4, [.agg (sumR l).1.cells]⟩) := (s3.trans s5).updK (s3.none f5)
  unfold countsB
  by_cases h1 : (sumR l).1 = s
  · rw [decide_eq_true h1] at heq ⊢
    by_cases h2 : (sumR l).2 = 0
    · have h2' : ((sumR l).2 = 0) = True := by simpa using h2
      rw [decide_eq_true h2]
      simp -implicitDefEqProofs only [BB,seval,← decide_not,okind,vpre,vpure,intBin,intPre,strBin,strPre,popTo,argSlots,fldV,fldAV,subCells,idxVV,idxAAV,idxSV,sliceV,sliceSV,boundV,szIs,storeOp,storeS,setRowV,eff,extV,buildV,splice,fitsL,eqCells,eqCell,minmaxV,capV,binBV,nilCheckV,bytesV,V.cells,V.stays,a5,b3,upd_ne n35,hl1,hl2,htc,hsc,heq,h2']
      refine Runs.pcall rfl rfl rfl (isv_c l hl _) ?_
      cases hb : isB l with
      | true =>
        (refine Runs.of_step Orc.nothing 300 ?_; simp -implicitDefEqProofs only [BB,seval,← decide_not,okind,vpre,vpure,intBin,intPre,strBin,strPre,popTo,argSlots,fldV,fldAV,subCells,idxVV,idxAAV,idxSV,sliceV,sliceSV,boundV,szIs,storeOp,storeS,setRowV,eff,extV,buildV,splice,eqSV,fitsL,eqCells,eqCell,minmaxV,capV,binBV,nilCheckV,bytesV,V.cells,V.stays,Orc.nothing])
        refine Runs.pcall rfl rfl rfl (checkv_c l hl _) ?_
        (refine Runs.of_step Orc.nothing 300 ?_; simp -implicitDefEqProofs only [BB,seval,← decide_not,okind,vpre,vpure,intBin,intPre,strBin,strPre,popTo,argSlots,fldV,fldAV,subCells,idxVV,idxAAV,idxSV,sliceV,sliceSV,boundV,szIs,storeOp,storeS,setRowV,eff,extV,buildV,splice,eqSV,fitsL,eqCells,eqCell,minmaxV,capV,binBV,nilCheckV,bytesV,V.cells,V.stays,Orc.nothing])
        exact RetV.pure hs (by simp)
      | false =>
        (refine Runs.of_step Orc.nothing 300 ?_; simp -implicitDefEqProofs only [BB,seval,← decide_not,okind,vpre,vpure,intBin,intPre,strBin,strPre,popTo,argSlots,fldV,fldAV,subCells,idxVV,idxAAV,idxSV,sliceV,sliceSV,boundV,szIs,storeOp,storeS,setRowV,eff,extV,buildV,splice,eqSV,fitsL,eqCells,eqCell,minmaxV,capV,binBV,nilCheckV,bytesV,V.cells,V.stays,Orc.nothing])
        exact RetV.pure hs rfl
    · have h2' : ((sumR l).2 = 0) = False := by simpa using h2
      rw [decide_eq_false h2]
      simp -implicitDefEqProofs only [BB,seval,← decide_not,okind,vpre,vpure,intBin,intPre,strBin,strPre,popTo,argSlots,fldV,fldAV,subCells,idxVV,idxAAV,idxSV,sliceV,sliceSV,boundV,szIs,storeOp,storeS,setRowV,eff,extV,buildV,splice,fitsL,eqCells,eqCell,minmaxV,capV,binBV,nilCheckV,bytesV,V.cells,V.stays,a5,b3,upd_ne n35,hl1,hl2,htc,hsc,heq,h2']
      exact RetV.pure hs rfl
  · rw [decide_eq_false h1] at heq ⊢
    simp -implicitDefEqProofs only [BB,seval,← decide_not,okind,vpre,vpure,intBin,intPre,strBin,strPre,popTo,argSlots,fldV,fldAV,subCells,idxVV,idxAAV,idxSV,sliceV,sliceSV,boundV,szIs,storeOp,storeS,setRowV,eff,extV,buildV,splice,fitsL,eqCells,eqCell,minmaxV,capV,binBV,nilCheckV,bytesV,V.cells,V.stays,a5,b3,upd_ne n35,hl1,hl2,htc,hsc,heq]
    exact RetV.pure hs rfl
def deepN (n : Nat) : Nat → List Nd
  | 0 => []
  | k + 1 => deepN n k ++ [⟨1, (n : Int) - (k : Int), ⟨0, 0, 0, 0, 0, 2, 2, 0, 0, 0, 0, 0⟩, 0, 0, [], 0, 0, 0⟩]
theorem deepN_len (n k : Nat) : (deepN n k).length = k := by
  induction k with
  | zero => rfl
  | succ k ih => simp [deepN, ih]
set_option maxRecDepth 100000 in
theorem deep_c (n : Nat) (hn : n ≤ 1000) : PFun Tryd.prog 47 [vI n] (encNs (deepN n n)) := fun σ => by
  refine Contract.of_runs Tryd.func47 e47 k47 (by simp [c47]) ?_
  refine Runs.mix 5 ?_
  (refine Runs.of_step Orc.nothing 300 ?_; simp -implicitDefEqProofs only [BB,seval,← decide_not,okind,vpre,vpure,intBin,intPre,strBin,strPre,popTo,argSlots,fldV,fldAV,subCells,idxVV,idxAAV,idxSV,sliceV,sliceSV,boundV,szIs,storeOp,storeS,setRowV,eff,extV,buildV,splice,eqSV,fitsL,eqCells,eqCell,minmaxV,capV,binBV,nilCheckV,bytesV,V.cells,V.stays,Orc.nothing,c47])
  have start : ∀ K : Store, ∃ rows, OutV K K 37 20 .nils rows ∧ FzL K (fun id => σ id = none) rows ((deepN n 0).map encN) := fun K => ⟨[], OutV.start, .nil⟩
  refine Runs.loop (fun m st => ∃ (k : Nat) (rows : List V), k ≤ n ∧ m = n - k ∧ SubStore σ st.σ ∧ OutV σ st.σ 37 20 (st.s 3) rows ∧ rows = (List.range k).map (fun (i : Nat) => ndW ⟨1, (n : Int) - (i : Int), ⟨0, 0, 0, 0, 0, 2, 2, 0, 0, 0, 0, 0⟩, 0, 0, [], 0, 0, 0⟩ .nils) ∧ st.s 0 = vI n ∧ st.s 4 = vI k) n
    ⟨0, [], by omega, by omega, SubStore.refl σ, OutV.start, rfl, rfl, rfl⟩ ?_
  rintro m ⟨S, σc⟩ ⟨k, rows, hk, rfl, hsub, hout, hrows, h0, h4⟩
  simp only at hsub hout h0 h4
  refine Runs.mix 5 ?_
  have hrl : rows.length = k := by rw [hrows]; simp
  by_cases hlt : k < n
  · have hlt' : ((k : Int) < (n : Int)) = True := by simp; omega
    have hin : inR .i64 ((n : Int) - (k : Int)) := inR_i64 (by omega) (by omega)
    have hin2 : inR .i64 ((k : Int) + 1) := inR_i64 (by omega) (by omega)
    (refine Runs.of_step Orc.nothing 300 ?_; simp -implicitDefEqProofs only [BB,seval,← decide_not,okind,vpre,vpure,intBin,intPre,strBin,strPre,popTo,argSlots,fldV,fldAV,subCells,idxVV,idxAAV,idxSV,sliceV,sliceSV,boundV,szIs,storeOp,storeS,setRowV,eff,extV,buildV,splice,eqSV,fitsL,eqCells,eqCell,minmaxV,capV,binBV,nilCheckV,bytesV,V.cells,V.stays,Orc.nothing,h0,h4,hlt',hin])
    refine Runs.pcall rfl rfl rfl (plain_c _) ?_
    (refine Runs.of_step Orc.nothing 300 ?_; simp -implicitDefEqProofs only [BB,seval,← decide_not,okind,vpre,vpure,intBin,intPre,strBin,strPre,popTo,argSlots,fldV,fldAV,subCells,idxVV,idxAAV,idxSV,sliceV,sliceSV,boundV,szIs,storeOp,storeS,setRowV,eff,extV,buildV,splice,eqSV,fitsL,eqCells,eqCell,minmaxV,capV,binBV,nilCheckV,bytesV,V.cells,V.stays,Orc.nothing,plainS])
    refine effR_new fun id16 σ1 s1 a1 f1 => ?_
    obtain ⟨idA, hda, hdA⟩ := hout.dst s1
    have hb : (rows.length + 1) * 177 ≤ 140737488355328 := by omega
    simp -implicitDefEqProofs only [BB,seval,← decide_not,okind,vpre,vpure,intBin,intPre,strBin,strPre,popTo,argSlots,fldV,fldAV,subCells,idxVV,idxAAV,idxSV,sliceV,sliceSV,boundV,szIs,storeOp,storeS,setRowV,eff,extV,buildV,splice,eqSV,fitsL,eqCells,eqCell,minmaxV,capV,binBV,nilCheckV,bytesV,V.cells,V.stays,hda,srcOne a1,hb]
    refine effR_put fun id17 σ2 s2 a2 f2 => ?_
    have hs2 := (hdA σ (SubStore.refl _) σ1 (hsub.trans s1)).trans s2
    simp -implicitDefEqProofs only [BB,seval,← decide_not,okind,vpre,vpure,intBin,intPre,strBin,strPre,popTo,argSlots,fldV,fldAV,subCells,idxVV,idxAAV,idxSV,sliceV,sliceSV,boundV,szIs,storeOp,storeS,setRowV,eff,extV,buildV,splice,eqSV,fitsL,eqCells,eqCell,minmaxV,capV,binBV,nilCheckV,bytesV,V.cells,V.stays,h0,h4,hin2]
    refine ⟨n - (k + 1), by omega, k + 1, rows ++ [ndW ⟨1, (n : Int) - (k : Int), ⟨0, 0, 0, 0, 0, 2, 2, 0, 0, 0, 0, 0⟩, 0, 0, [], 0, 0, 0⟩ .nils], by omega, rfl, hs2, ?_, ?_, by simp⟩
    · exact OutV.new (by simp) a2 ((hsub.trans s1).none f2)
    · rw [List.range_succ, List.map_append, ← hrows]; rfl
  · have hlt' : ((k : Int) < (n : Int)) = False := by simp; omega
    have hkn : k = n := by omega
    subst hkn
    (refine Runs.of_step Orc.nothing 300 ?_; simp -implicitDefEqProofs only [BB,seval,← decide_not,okind,vpre,vpure,intBin,intPre,strBin,strPre,popTo,argSlots,fldV,fldAV,subCells,idxVV,idxAAV,idxSV,sliceV,sliceSV,boundV,szIs,storeOp,storeS,setRowV,eff,extV,buildV,splice,eqSV,fitsL,eqCells,eqCell,minmaxV,capV,binBV,nilCheckV,bytesV,V.cells,V.stays,Orc.nothing,h0,h4,hlt'])
    have hfz : FzL σc (fun id => σ id = none) rows ((deepN k k).map encN) := by
      rw [hrows]
      have : ∀ j, FzL σc (fun id => σ id = none) ((List.range j).map (fun (i : Nat) => ndW ⟨1, (k : Int) - (i : Int), ⟨0, 0, 0, 0, 0, 2, 2, 0, 0, 0, 0, 0⟩, 0, 0, [], 0, 0, 0⟩ .nils)) ((deepN k j).map encN) := by
        intro j
        induction j with
        | zero => exact .nil
        | succ j ih =>
          rw [List.range_succ, List.map_append, deepN, List.map_append]
          exact ih.app (.one (fz_nd (.nil 1)))
      exact this k
    rcases hout with ⟨h1, h2⟩ | ⟨id, h1, h2, h3⟩
    · rw [h1]
      rw [h2] at hrl
      have : k = 0 := by simpa using hrl.symm
      subst this
      exact ⟨_, σ, hsub, Wk.nils 20, rfl, rfl⟩
    · rw [h1]
      refine ⟨_, σ, hsub, (Fz.own id 0 rows.length ⟨_, 20, rows⟩ _ h2 h3 (by simp) ?_ : Fz σc (fun id => σ id = none) _ _).wk hsub (fun _ h => h), rfl, rfl⟩
      rw [List.drop_zero, List.take_of_length_le (by simp)]
      exact hfz
end Go.Vc
namespace Go.Vc
open Go.Proofs
theorem ne_self_int (a : Int) : (a ≠ a) = False := by simp
end Go.Vc
namespace Go.Vc
open Go.Proofs
theorem counts_nil (s : Sm) : PFun Tryd.prog 46 [.nils, .agg s.cells] (.bool (countsB [] s)) := fun σ =>
  Contract.args (args' := [encNs [], .agg s.cells]) ⟨Wk.nils 20, Wk.refl (SubStore.refl _) _, trivial⟩ (counts_c [] ⟨by simp, by simp⟩ s σ)
def exDoc : List Nd := [blkN 2 5 2 0, ⟨2, 1, Sty.zero, 10, 2, [30, 40], 0, 0, 0⟩]
def exBad : List Nd := [⟨2, 1, Sty.zero, 1, 0, [], 0, 0, 0⟩]
set_option maxRecDepth 100000 in
theorem awake6_c : PFun Tryd.prog 22 [] (.bool true) := fun σ => by
  refine Contract.of_runs Tryd.func22 e22 k22 (by simp [c22]) ?_
  refine Runs.mix 7 ?_
  (refine Runs.of_step Orc.nothing 300 ?_; simp -implicitDefEqProofs only [BB,seval,← decide_not,okind,vpre,vpure,intBin,intPre,strBin,strPre,popTo,argSlots,fldV,fldAV,subCells,idxVV,idxAAV,idxSV,sliceV,sliceSV,boundV,szIs,storeOp,storeS,setRowV,eff,extV,buildV,splice,eqSV,fitsL,eqCells,eqCell,minmaxV,capV,binBV,nilCheckV,bytesV,V.cells,V.stays,Orc.nothing,c22])
  refine Runs.pcall rfl rfl rfl (readG_c _ (by simp) _) ?_
  have hr : readR [91, 109, 53, 32, 40, 49, 48, 32, 50, 32, 51, 48, 32, 52, 48, 41, 93] = (exDoc, 0, 0) := by rw [← readF_eq]; kernel_rfl
  rw [hr]
  simp only [readV]
  (refine Runs.of_step Orc.nothing 300 ?_; simp -implicitDefEqProofs only [BB,seval,← decide_not,okind,vpre,vpure,intBin,intPre,strBin,strPre,popTo,argSlots,fldV,fldAV,subCells,idxVV,idxAAV,idxSV,sliceV,sliceSV,boundV,szIs,storeOp,storeS,setRowV,eff,extV,buildV,splice,eqSV,fitsL,eqCells,eqCell,minmaxV,capV,binBV,nilCheckV,bytesV,Orc.nothing,V.cells_agg,V.cells_int,V.cells_nils,V.cells_own,V.cells_sl,V.cells_str,V.cells_bool,V.cells_fn,V.cells_ptr,V.cells_rp,V.stays_agg,V.stays_int,V.stays_nils,V.stays_own,V.stays_sl,V.stays_str,V.stays_bool,V.stays_fn,V.stays_ptr,V.stays_rp])
  refine effR_new fun id13 σ1 s1 a1 f1 => ?_
  have fb : Fine exBad := ⟨by simp [exBad], by simp [exBad]⟩
  have fd : Fine exDoc := ⟨by simp [exDoc], by simp [exDoc, blkN]⟩
  have hlend : ∀ σx, SubStore σ1 σx → WkL σx nost [.own id13 0 1] [encNs exBad] := fun σx hx => ⟨lend_nodes (l := exBad) rfl (hx _ _ a1) (.cons _ _ _ _ (fz_nd (x := ⟨2, 1, Sty.zero, 1, 0, [], 0, 0, 0⟩) (.nil 1)) .nil), trivial⟩
  have hb1 : sumR exBad = (⟨0, 0, 0, 0⟩, 4) := by rw [sumR_F]; kernel_rfl
  have hb2 : isB exBad = false := by rw [isB_F]; kernel_rfl
  have hb3 : checkR exBad = 4 := by rw [checkR_F]; kernel_rfl
  have c1 := fun σx hx => PFun.lend (hlend σx hx) (countv_c exBad fb) rfl
  have c2 := fun σx hx => PFun.lend (hlend σx hx) (isv_c exBad fb) rfl
  have c3 := fun σx hx => PFun.lend (hlend σx hx) (checkv_c exBad fb) rfl
  rw [hb1] at c1
  rw [hb2] at c2
  rw [hb3] at c3
  simp -implicitDefEqProofs only [BB,seval,← decide_not,okind,vpre,vpure,intBin,intPre,strBin,strPre,popTo,argSlots,fldV,fldAV,subCells,idxVV,idxAAV,idxSV,sliceV,sliceSV,boundV,szIs,storeOp,storeS,setRowV,eff,extV,buildV,splice,eqSV,fitsL,eqCells,eqCell,minmaxV,capV,binBV,nilCheckV,bytesV,V.cells,V.stays]
  refine Runs.pcall rfl rfl rfl (c1 _ (SubStore.refl _)) ?_
  (refine Runs.of_step Orc.nothing 300 ?_; simp -implicitDefEqProofs only [BB,seval,← decide_not,okind,vpre,vpure,intBin,intPre,strBin,strPre,popTo,argSlots,fldV,fldAV,subCells,idxVV,idxAAV,idxSV,sliceV,sliceSV,boundV,szIs,storeOp,storeS,setRowV,eff,extV,buildV,splice,eqSV,fitsL,eqCells,eqCell,minmaxV,capV,binBV,nilCheckV,bytesV,V.cells,V.stays,Orc.nothing,Sm.cells])
  refine effR_new fun id5 σ2 s2 a2 f2 => ?_
  have sub2 : SubStore σ1 (upd σ2 id5 ⟨43, 4, [.agg [vI 0, vI 0, vI 0, vI 0]]⟩) := s2.updK f2
  simp -implicitDefEqProofs only [BB,seval,← decide_not,okind,vpre,vpure,intBin,intPre,strBin,strPre,popTo,argSlots,fldV,fldAV,subCells,idxVV,idxAAV,idxSV,sliceV,sliceSV,boundV,szIs,storeOp,storeS,setRowV,eff,extV,buildV,splice,eqSV,fitsL,eqCells,eqCell,minmaxV,capV,binBV,nilCheckV,bytesV,V.cells,V.stays,a2]
  have d1 : countsB exDoc ⟨1, 2, 2, 25⟩ = true := by rw [countsB, sumR_F, isB_F, checkR_F]; kernel_rfl
  have d2 : countsB [] ⟨0, 0, 0, 0⟩ = true := by rw [countsB, sumR_F, isB_F, checkR_F]; kernel_rfl
  have k1 := counts_c exDoc fd ⟨1, 2, 2, 25⟩
  have k2 := counts_nil ⟨0, 0, 0, 0⟩
  rw [d1] at k1
  rw [d2] at k2
  refine Runs.pcall rfl rfl rfl (k1 _) ?_
  (refine Runs.of_step Orc.nothing 300 ?_; simp -implicitDefEqProofs only [BB,seval,← decide_not,okind,vpre,vpure,intBin,intPre,strBin,strPre,popTo,argSlots,fldV,fldAV,subCells,idxVV,idxAAV,idxSV,sliceV,sliceSV,boundV,szIs,storeOp,storeS,setRowV,eff,extV,buildV,splice,eqSV,fitsL,eqCells,eqCell,minmaxV,capV,binBV,nilCheckV,bytesV,V.cells,V.stays,Orc.nothing])
  refine Runs.pcall rfl rfl rfl (k2 _) ?_
  (refine Runs.of_step Orc.nothing 300 ?_; simp -implicitDefEqProofs only [BB,seval,← decide_not,okind,vpre,vpure,intBin,intPre,strBin,strPre,popTo,argSlots,fldV,fldAV,subCells,idxVV,idxAAV,idxSV,sliceV,sliceSV,boundV,szIs,storeOp,storeS,setRowV,eff,extV,buildV,splice,eqSV,fitsL,eqCells,eqCell,minmaxV,capV,binBV,nilCheckV,bytesV,V.cells,V.stays,Orc.nothing])
  refine Runs.pcall rfl rfl rfl (c2 _ sub2) ?_
  (refine Runs.of_step Orc.nothing 300 ?_; simp -implicitDefEqProofs only [BB,seval,← decide_not,okind,vpre,vpure,intBin,intPre,strBin,strPre,popTo,argSlots,fldV,fldAV,subCells,idxVV,idxAAV,idxSV,sliceV,sliceSV,boundV,szIs,storeOp,storeS,setRowV,eff,extV,buildV,splice,eqSV,fitsL,eqCells,eqCell,minmaxV,capV,binBV,nilCheckV,bytesV,V.cells,V.stays,Orc.nothing])
  refine Runs.pcall rfl rfl rfl (c3 _ sub2) ?_
  (refine Runs.of_step Orc.nothing 300 ?_; simp -implicitDefEqProofs only [BB,seval,← decide_not,okind,vpre,vpure,intBin,intPre,strBin,strPre,popTo,argSlots,fldV,fldAV,subCells,idxVV,idxAAV,idxSV,sliceV,sliceSV,boundV,szIs,storeOp,storeS,setRowV,eff,extV,buildV,splice,eqSV,fitsL,eqCells,eqCell,minmaxV,capV,binBV,nilCheckV,bytesV,V.cells,V.stays,Orc.nothing])
  have f17 : Fine (deepN 17 17) := ⟨by simp [deepN_len], by simp [deepN]⟩
  have f16 : Fine (deepN 16 16) := ⟨by simp [deepN_len], by simp [deepN]⟩
  have e17 : checkR (deepN 17 17) = 2 := by rw [checkR_F]; kernel_rfl
  have e16 : checkR (deepN 16 16) = 0 := by rw [checkR_F]; kernel_rfl
  refine Runs.pcall rfl rfl rfl (deep_c 17 (by omega) _) ?_
  (refine Runs.of_step Orc.nothing 300 ?_; simp -implicitDefEqProofs only [BB,seval,← decide_not,okind,vpre,vpure,intBin,intPre,strBin,strPre,popTo,argSlots,fldV,fldAV,subCells,idxVV,idxAAV,idxSV,sliceV,sliceSV,boundV,szIs,storeOp,storeS,setRowV,eff,extV,buildV,splice,eqSV,fitsL,eqCells,eqCell,minmaxV,capV,binBV,nilCheckV,bytesV,V.cells,V.stays,Orc.nothing])
  refine Runs.pcall rfl rfl rfl (checkv_c _ f17 _) ?_
  rw [e17]
  (refine Runs.of_step Orc.nothing 300 ?_; simp -implicitDefEqProofs only [BB,seval,← decide_not,okind,vpre,vpure,intBin,intPre,strBin,strPre,popTo,argSlots,fldV,fldAV,subCells,idxVV,idxAAV,idxSV,sliceV,sliceSV,boundV,szIs,storeOp,storeS,setRowV,eff,extV,buildV,splice,eqSV,fitsL,eqCells,eqCell,minmaxV,capV,binBV,nilCheckV,bytesV,V.cells,V.stays,Orc.nothing])
  refine Runs.pcall rfl rfl rfl (deep_c 16 (by omega) _) ?_
  (refine Runs.of_step Orc.nothing 300 ?_; simp -implicitDefEqProofs only [BB,seval,← decide_not,okind,vpre,vpure,intBin,intPre,strBin,strPre,popTo,argSlots,fldV,fldAV,subCells,idxVV,idxAAV,idxSV,sliceV,sliceSV,boundV,szIs,storeOp,storeS,setRowV,eff,extV,buildV,splice,eqSV,fitsL,eqCells,eqCell,minmaxV,capV,binBV,nilCheckV,bytesV,V.cells,V.stays,Orc.nothing])
  refine Runs.pcall rfl rfl rfl (checkv_c _ f16 _) ?_
  rw [e16]
  (refine Runs.of_step Orc.nothing 300 ?_; simp -implicitDefEqProofs only [BB,seval,← decide_not,okind,vpre,vpure,intBin,intPre,strBin,strPre,popTo,argSlots,fldV,fldAV,subCells,idxVV,idxAAV,idxSV,sliceV,sliceSV,boundV,szIs,storeOp,storeS,setRowV,eff,extV,buildV,splice,eqSV,fitsL,eqCells,eqCell,minmaxV,capV,binBV,nilCheckV,bytesV,V.cells,V.stays,Orc.nothing])
  exact RetV.pure (s1.trans sub2) rfl
theorem sl_to (σ : Store) (l : List Nd) (k : Nat) (hk : k ≤ l.length) : sliceV σ 20 (encNs l) none (some (.int .i64 (k : Int))) none = some (encNs (l.take k)) := by
  simp only [encNs,sliceV,boundV,List.length_map]
  rw [if_pos ⟨by omega, by omega, by omega, by omega, trivial⟩]
  simp [List.map_take]
theorem sl_from (σ : Store) (l : List Nd) (k : Nat) (hk : k ≤ l.length) : sliceV σ 20 (encNs l) (some (.int .i64 (k : Int))) none none = some (encNs (l.drop k)) := by
  simp only [encNs,sliceV,boundV,List.length_map]
  rw [if_pos ⟨by omega, by omega, by omega, by omega, trivial⟩]
  simp only [Int.toNat_natCast,List.map_drop,Option.some.injEq,V.sl.injEq,true_and]
  exact List.take_of_length_le (by simp)
theorem fine_take {l : List Nd} (h : Fine l) (k : Nat) : Fine (l.take k) := ⟨by have := h.1; simp; omega, fun x hx => h.2 x (List.mem_of_mem_take hx)⟩
theorem fine_drop {l : List Nd} (h : Fine l) (k : Nat) : Fine (l.drop k) := ⟨by have := h.1; simp; omega, fun x hx => h.2 x (List.mem_of_mem_drop hx)⟩
set_option maxRecDepth 100000 in
theorem validRead_c (s : List UInt8) : PFun Tryd.prog 7 [.str s] (.bool true) := fun σ => by
  refine Contract.of_runs Tryd.func7 e7 k7 (by simp [c7]) ?_
  refine Runs.mix 9 ?_
  by_cases hs : s.length > 3000
  · have q1 : ((s.length : Int) > 3000) = True := by simp; omega
    (refine Runs.of_step Orc.nothing 300 ?_; simp -implicitDefEqProofs only [BB,seval,← decide_not,okind,vpre,vpure,intBin,intPre,strBin,strPre,popTo,argSlots,fldV,fldAV,subCells,idxVV,idxAAV,idxSV,sliceV,sliceSV,boundV,szIs,storeOp,storeS,setRowV,eff,extV,buildV,splice,eqSV,fitsL,eqCells,eqCell,minmaxV,capV,binBV,nilCheckV,bytesV,V.cells,V.stays,Orc.nothing,c7,q1])
    refine Runs.pcall rfl rfl rfl (awake6_c _) ?_
    (refine Runs.of_step Orc.nothing 300 ?_; simp -implicitDefEqProofs only [BB,seval,← decide_not,okind,vpre,vpure,intBin,intPre,strBin,strPre,popTo,argSlots,fldV,fldAV,subCells,idxVV,idxAAV,idxSV,sliceV,sliceSV,boundV,szIs,storeOp,storeS,setRowV,eff,extV,buildV,splice,eqSV,fitsL,eqCells,eqCell,minmaxV,capV,binBV,nilCheckV,bytesV,V.cells,V.stays,Orc.nothing])
    exact RetV.same rfl
  · have q1 : ((s.length : Int) > 3000) = False := by simp; omega
    (refine Runs.of_step Orc.nothing 300 ?_; simp -implicitDefEqProofs only [BB,seval,← decide_not,okind,vpre,vpure,intBin,intPre,strBin,strPre,popTo,argSlots,fldV,fldAV,subCells,idxVV,idxAAV,idxSV,sliceV,sliceSV,boundV,szIs,storeOp,storeS,setRowV,eff,extV,buildV,splice,eqSV,fitsL,eqCells,eqCell,minmaxV,capV,binBV,nilCheckV,bytesV,V.cells,V.stays,Orc.nothing,c7,q1])
    refine Runs.pcall rfl rfl rfl (readOf_c s (by omega) _) ?_
    have hf := readR_fine (s := s) (n := 3000) (by omega)
    have hok := @readR_isB s
    have hsh := @readR_shapes s
    generalize readR s = r at *
    obtain ⟨l, p, e⟩ := r
    simp only [readV] at *
    by_cases he : e = 0
    · subst he
      have hB := hok rfl
      obtain ⟨xs, hxs, hxo⟩ := hsh rfl
      have fl : Fine l := ⟨by omega, fun x hx => by have := hf.2 x hx; omega⟩
      obtain ⟨hn1, hn2⟩ := sumR_nodes hB
      have hck := checkR_ok hB
      have hcells : (V.agg (sumR l).1.cells).cells.length = 4 := rfl
      have hc2 : (sumR l).1.cells.length = 4 := rfl
      (refine Runs.of_step Orc.nothing 300 ?_; simp -implicitDefEqProofs only [BB,seval,← decide_not,okind,vpre,vpure,intBin,intPre,strBin,strPre,popTo,argSlots,fldV,fldAV,subCells,idxVV,idxAAV,idxSV,sliceV,sliceSV,boundV,szIs,storeOp,storeS,setRowV,eff,extV,buildV,splice,eqSV,fitsL,eqCells,eqCell,minmaxV,capV,binBV,nilCheckV,bytesV,V.cells,V.stays,Orc.nothing])
      refine Runs.pcall rfl rfl rfl (countv_c l fl _) ?_
      rw [hn2]
      obtain ⟨d1, p1, n1, h1⟩ : ∃ a b c, (sumR l).1.cells = [vI a, vI b, vI (l.length : Int), vI c] := ⟨_, _, _, by unfold Sm.cells; rw [hn1]⟩
      rw [h1]
      (refine Runs.of_step Orc.nothing 300 ?_; simp -implicitDefEqProofs only [BB,seval,← decide_not,okind,vpre,vpure,intBin,intPre,strBin,strPre,popTo,argSlots,fldV,fldAV,subCells,idxVV,idxAAV,idxSV,sliceV,sliceSV,boundV,szIs,storeOp,storeS,setRowV,eff,extV,buildV,splice,eqSV,fitsL,eqCells,eqCell,minmaxV,capV,binBV,nilCheckV,bytesV,V.cells,V.stays,Orc.nothing])
      refine effR_new fun id6 σ6 s6 a6 f6 => ?_
      simp -implicitDefEqProofs only [BB,seval,← decide_not,okind,vpre,vpure,intBin,intPre,strBin,strPre,popTo,argSlots,fldV,fldAV,subCells,idxVV,idxAAV,idxSV,sliceV,sliceSV,boundV,szIs,storeOp,storeS,setRowV,eff,extV,buildV,splice,eqSV,fitsL,eqCells,eqCell,minmaxV,capV,binBV,nilCheckV,bytesV,V.cells,V.stays,a6]
      refine Runs.pcall rfl rfl rfl (isv_c l fl _) ?_
      rw [hB]
      have hck' : (checkR l = 4) = False := by simpa using hck
      (refine Runs.of_step Orc.nothing 300 ?_; simp -implicitDefEqProofs only [BB,seval,← decide_not,okind,vpre,vpure,intBin,intPre,strBin,strPre,popTo,argSlots,fldV,fldAV,subCells,idxVV,idxAAV,idxSV,sliceV,sliceSV,boundV,szIs,storeOp,storeS,setRowV,eff,extV,buildV,splice,eqSV,fitsL,eqCells,eqCell,minmaxV,capV,binBV,nilCheckV,bytesV,V.cells,V.stays,Orc.nothing,a6,lenV_encNs,ne_self_int])
      refine Runs.pcall rfl rfl rfl (checkv_c l fl _) ?_
      (refine Runs.of_step Orc.nothing 300 ?_; simp -implicitDefEqProofs only [BB,seval,← decide_not,okind,vpre,vpure,intBin,intPre,strBin,strPre,popTo,argSlots,fldV,fldAV,subCells,idxVV,idxAAV,idxSV,sliceV,sliceSV,boundV,szIs,storeOp,storeS,setRowV,eff,extV,buildV,splice,eqSV,fitsL,eqCells,eqCell,minmaxV,capV,binBV,nilCheckV,bytesV,V.cells,V.stays,Orc.nothing,hck'])
      have sub6 : SubStore σ (upd σ6 id6 ⟨43, 4, [.agg [vI d1, vI p1, vI (l.length : Int), vI n1]]⟩) := s6.updK f6
      generalize upd σ6 id6 _ = σ7 at *
      refine Runs.loop (fun m st => ∃ i : Nat, i ≤ xs.length ∧ m = xs.length - i ∧ SubStore σ st.σ ∧ st.s 3 = encNs l ∧ st.s 8 = vI ((toldL (xs.take i)).length : Int)) xs.length
        ⟨0, by omega, by omega, sub6, rfl, rfl⟩ ?_
      rintro m ⟨S, σc⟩ ⟨i, hi, rfl, hsub, h3, h8⟩
      simp only at hsub h3 h8
      refine Runs.mix 9 ?_
      by_cases hlt : i < xs.length
      · obtain ⟨hd, g1, g2, g3⟩ := told_at hlt
        obtain ⟨t1, t2⟩ := told_parts hxo i
        rw [← hxs] at t1 t2 g1
        have hal : (toldL (xs.take i)).length < l.length := (List.getElem?_eq_some_iff.1 g1).1
        have hlt' : (((toldL (xs.take i)).length : Int) < (l.length : Int)) = True := by simp; omega
        generalize hat : (toldL (xs.take i)).length = at' at *
        have hs1 := fun σ => sl_to σ l at' (by omega)
        have hs2 := fun σ => sl_from σ l at' (by omega)
        have hget : l[at'] = hd := (List.getElem?_eq_some_iff.1 g1).2
        have hix := fun σ => idxAV_encNs (σ := σ) hal
        rw [hget] at hix
        (refine Runs.of_step Orc.nothing 300 ?_; simp -implicitDefEqProofs only [BB,seval,← decide_not,okind,vpre,vpure,intBin,intPre,strBin,strPre,popTo,argSlots,fldV,fldAV,subCells,idxVV,idxAAV,idxSV,sliceSV,boundV,szIs,storeOp,storeS,setRowV,eff,extV,buildV,splice,eqSV,fitsL,eqCells,eqCell,minmaxV,capV,binBV,nilCheckV,bytesV,V.cells,V.stays,Orc.nothing,h3,h8,lenV_encNs,hlt',hs1])
        refine Runs.pcall rfl rfl rfl (isv_c (l.take at') (fine_take fl _) _) ?_
        rw [t1]
        (refine Runs.of_step Orc.nothing 300 ?_; simp -implicitDefEqProofs only [BB,seval,← decide_not,okind,vpre,vpure,intBin,intPre,strBin,strPre,popTo,argSlots,fldV,fldAV,subCells,idxVV,idxAAV,idxSV,sliceSV,boundV,szIs,storeOp,storeS,setRowV,eff,extV,buildV,splice,eqSV,fitsL,eqCells,eqCell,minmaxV,capV,binBV,nilCheckV,bytesV,V.cells,V.stays,Orc.nothing,h3,h8,hs2])
        refine Runs.pcall rfl rfl rfl (isv_c (l.drop at') (fine_drop fl _) _) ?_
        rw [t2]
        have hmx : (if (1 : Int) > hd.size then (1 : Int) else hd.size) = hd.size := if_neg (by omega)
        have hle : at' + hd.size.toNat ≤ l.length := by
          rw [g2, hxs, told_split xs (i + 1), List.length_append]; omega
        have hin : inR .i64 ((at' : Int) + hd.size) := inR_i64 (by omega) (by omega)
        (refine Runs.of_step Orc.nothing 300 ?_; simp -implicitDefEqProofs only [BB,seval,← decide_not,okind,vpre,vpure,intBin,intPre,strBin,strPre,popTo,argSlots,fldV,fldAV,subCells,idxVV,idxAAV,idxSV,sliceV,sliceSV,boundV,szIs,storeOp,storeS,setRowV,eff,extV,buildV,splice,eqSV,fitsL,eqCells,eqCell,minmaxV,capV,binBV,nilCheckV,bytesV,V.cells,V.stays,Orc.nothing,h3,h8,hix,Nd.cells,hmx,hin])
        exact ⟨_, by omega, i + 1, by omega, rfl, hsub, by rw [← g2]; simp; omega⟩
      · have hie : i = xs.length := by omega
        subst hie
        rw [List.take_length, ← hxs] at h8
        have hlt' : ((l.length : Int) < (l.length : Int)) = False := by simp
        (refine Runs.of_step Orc.nothing 300 ?_; simp -implicitDefEqProofs only [BB,seval,← decide_not,okind,vpre,vpure,intBin,intPre,strBin,strPre,popTo,argSlots,fldV,fldAV,subCells,idxVV,idxAAV,idxSV,sliceV,sliceSV,boundV,szIs,storeOp,storeS,setRowV,eff,extV,buildV,splice,eqSV,fitsL,eqCells,eqCell,minmaxV,capV,binBV,nilCheckV,bytesV,V.cells,V.stays,Orc.nothing,h3,h8,lenV_encNs,hlt'])
        refine Runs.pcall rfl rfl rfl (awake6_c _) ?_
        (refine Runs.of_step Orc.nothing 300 ?_; simp -implicitDefEqProofs only [BB,seval,← decide_not,okind,vpre,vpure,intBin,intPre,strBin,strPre,popTo,argSlots,fldV,fldAV,subCells,idxVV,idxAAV,idxSV,sliceV,sliceSV,boundV,szIs,storeOp,storeS,setRowV,eff,extV,buildV,splice,eqSV,fitsL,eqCells,eqCell,minmaxV,capV,binBV,nilCheckV,bytesV,V.cells,V.stays,Orc.nothing])
        exact RetV.pure hsub rfl
    · have q2 : (e ≠ 0) = True := by simpa using he
      (refine Runs.of_step Orc.nothing 300 ?_; simp -implicitDefEqProofs only [BB,seval,← decide_not,okind,vpre,vpure,intBin,intPre,strBin,strPre,popTo,argSlots,fldV,fldAV,subCells,idxVV,idxAAV,idxSV,sliceV,sliceSV,boundV,szIs,storeOp,storeS,setRowV,eff,extV,buildV,splice,eqSV,fitsL,eqCells,eqCell,minmaxV,capV,binBV,nilCheckV,bytesV,V.cells,V.stays,Orc.nothing,q2])
      refine Runs.pcall rfl rfl rfl (awake6_c _) ?_
      (refine Runs.of_step Orc.nothing 300 ?_; simp -implicitDefEqProofs only [BB,seval,← decide_not,okind,vpre,vpure,intBin,intPre,strBin,strPre,popTo,argSlots,fldV,fldAV,subCells,idxVV,idxAAV,idxSV,sliceV,sliceSV,boundV,szIs,storeOp,storeS,setRowV,eff,extV,buildV,splice,eqSV,fitsL,eqCells,eqCell,minmaxV,capV,binBV,nilCheckV,bytesV,V.cells,V.stays,Orc.nothing])
      exact RetV.same rfl
end Go.Vc
