/- Part 10 of the library of this proof. -/
import Derived.Test.YtleahcdojjeinaaDoorW9
import Derived.Lib.ItoaNum
set_option linter.all false
namespace Go.Vc
open Go.Proofs
def styL : List Int → Sty
  | [a, b, c, d, e, f, g, h, i, j, k, l] => ⟨a, b, c, d, e, f, g, h, i, j, k, l⟩
  | _ => Sty.zero
theorem styL_cells {s : List Int} (h : s.length = 12) : s.map vI = (styL s).cells := by
  match s, h with
  | [a, b, c, d, e, f, g, h, i, j, k, l], _ => rfl
def ndS : Shp → Nd
  | .box w h => ⟨3, 1, Sty.zero, 0, 0, [], 0, w, h⟩
  | .block s _ => ⟨1, 1, styL s, 0, 0, [], 0, 0, 0⟩
  | .text ns => ⟨2, 1, Sty.zero, ns.getD 0 0, ns.getD 1 0, ns.drop 2, 0, 0, 0⟩
  | .float w h d => ⟨4, 1, Sty.zero, 0, 0, [], d, w, h⟩
theorem wk_nd {σ σ' : Store} (h : SubStore σ' σ) (k z a b c d w v : Int) (s : Sty) : Wk σ σ' (.agg [vI k, vI z, vI s.top, vI s.bottom, vI s.padTop, vI s.padBottom, vI s.inset, vI s.orphans, vI s.widows, vI s.head, vI s.before, vI s.after, vI s.inside, vI s.clear, vI a, vI b, .nils, vI d, vI w, vI v])
    (encN ⟨k, z, s, a, b, [], d, w, v⟩) := by
  simp only [encN,Nd.cells]
  refine Wk.agg ?_
  simp only [WkL]
  exact ⟨Wk.refl h _, Wk.refl h _, Wk.refl h _, Wk.refl h _, Wk.refl h _, Wk.refl h _, Wk.refl h _, Wk.refl h _, Wk.refl h _, Wk.refl h _, Wk.refl h _, Wk.refl h _, Wk.refl h _, Wk.refl h _, Wk.refl h _, Wk.refl h _, Wk.nils 1, Wk.refl h _, Wk.refl h _, Wk.refl h _, trivial⟩
theorem retN {σ σ1 σ2 : Store} {id2 : Nat} {o : Ob} {v v' : V} (s1 : SubStore σ σ1) (s2 : SubStore σ1 σ2) (f2 : σ1 id2 = none) (h : ∀ τ, SubStore σ τ → Wk τ σ v v') : RetV v (upd σ2 id2 o) fun r σ' => r = v' ∧ σ' = σ :=
  have hs : SubStore σ (upd σ2 id2 o) := (s1.trans s2).updK (s1.none f2)
  ⟨_, σ, hs, h _ hs, rfl, rfl⟩
theorem mbox_c (w h : Int) : PFun Tryd.prog 159 [.agg [vI w, vI h]] (encN (ndS (.box w h))) := fun σ => by
  refine Contract.of_runs Tryd.func159 e159 k159 (by simp [c159]) ?_
  (refine Runs.of_step Orc.nothing 300 ?_; simp -implicitDefEqProofs only [BB,seval,← decide_not,okind,vpre,vpure,intBin,intPre,strBin,strPre,popTo,argSlots,fldV,fldAV,subCells,idxVV,idxAAV,idxSV,sliceV,sliceSV,boundV,szIs,storeOp,storeS,setRowV,eff,extV,buildV,splice,eqSV,fitsL,eqCells,eqCell,minmaxV,capV,binBV,nilCheckV,bytesV,V.cells,V.stays,Orc.nothing,c159])
  refine effR_new fun id1 σ1 s1 a1 f1 => ?_
  simp -implicitDefEqProofs only [BB,seval,← decide_not,okind,vpre,vpure,intBin,intPre,strBin,strPre,popTo,argSlots,fldV,fldAV,subCells,idxVV,idxAAV,idxSV,sliceV,sliceSV,boundV,szIs,storeOp,storeS,setRowV,eff,extV,buildV,splice,eqSV,fitsL,eqCells,eqCell,minmaxV,capV,binBV,nilCheckV,bytesV,V.cells,V.stays]
  refine effR_new fun id2 σ2 s2 a2 f2 => ?_
  have b1 := s2 _ _ a1
  simp -implicitDefEqProofs only [BB,seval,← decide_not,okind,vpre,vpure,intBin,intPre,strBin,strPre,popTo,argSlots,fldV,fldAV,subCells,idxVV,idxAAV,idxSV,sliceV,sliceSV,boundV,szIs,storeOp,storeS,setRowV,eff,extV,buildV,splice,eqSV,fitsL,eqCells,eqCell,minmaxV,capV,binBV,nilCheckV,bytesV,V.cells,V.stays,b1,a2]
  exact retN s1 s2 f2 fun τ hs => wk_nd hs 3 1 0 0 0 0 w h Sty.zero
theorem mfloat_c (w h d : Int) : PFun Tryd.prog 162 [.agg [vI w, vI h, vI d]] (encN (ndS (.float w h d))) := fun σ => by
  refine Contract.of_runs Tryd.func162 e162 k162 (by simp [c162]) ?_
  (refine Runs.of_step Orc.nothing 300 ?_; simp -implicitDefEqProofs only [BB,seval,← decide_not,okind,vpre,vpure,intBin,intPre,strBin,strPre,popTo,argSlots,fldV,fldAV,subCells,idxVV,idxAAV,idxSV,sliceV,sliceSV,boundV,szIs,storeOp,storeS,setRowV,eff,extV,buildV,splice,eqSV,fitsL,eqCells,eqCell,minmaxV,capV,binBV,nilCheckV,bytesV,V.cells,V.stays,Orc.nothing,c162])
  refine effR_new fun id1 σ1 s1 a1 f1 => ?_
  simp -implicitDefEqProofs only [BB,seval,← decide_not,okind,vpre,vpure,intBin,intPre,strBin,strPre,popTo,argSlots,fldV,fldAV,subCells,idxVV,idxAAV,idxSV,sliceV,sliceSV,boundV,szIs,storeOp,storeS,setRowV,eff,extV,buildV,splice,eqSV,fitsL,eqCells,eqCell,minmaxV,capV,binBV,nilCheckV,bytesV,V.cells,V.stays]
  refine effR_new fun id2 σ2 s2 a2 f2 => ?_
  have b1 := s2 _ _ a1
  simp -implicitDefEqProofs only [BB,seval,← decide_not,okind,vpre,vpure,intBin,intPre,strBin,strPre,popTo,argSlots,fldV,fldAV,subCells,idxVV,idxAAV,idxSV,sliceV,sliceSV,boundV,szIs,storeOp,storeS,setRowV,eff,extV,buildV,splice,eqSV,fitsL,eqCells,eqCell,minmaxV,capV,binBV,nilCheckV,bytesV,V.cells,V.stays,b1,a2]
  exact retN s1 s2 f2 fun τ hs => wk_nd hs 4 1 0 0 0 d w h Sty.zero
theorem mblock_c (s : List Int) (hs : s.length = 12) (x : V) (hx : x.cells.length = 1) (hxs : x.stays = true) : PFun Tryd.prog 160 [.agg (s.map vI ++ [x])] (encN (ndS (.block s []))) := fun σ => by
  refine Contract.of_runs Tryd.func160 e160 k160 (by simp [c160]) ?_
  match s, hs with
  | [a, b, c, d, e, f, g, h, i, j, k, l], _ =>
    simp only [List.map_cons,List.map_nil,List.cons_append,List.nil_append]
    have hst : (V.agg [vI a, vI b, vI c, vI d, vI e, vI f, vI g, vI h, vI i, vI j, vI k, vI l, x]).stays = true := rfl
    (refine Runs.of_step Orc.nothing 300 ?_; simp -implicitDefEqProofs only [BB,seval,← decide_not,okind,vpre,vpure,intBin,intPre,strBin,strPre,popTo,argSlots,fldV,fldAV,subCells,idxVV,idxAAV,idxSV,sliceV,sliceSV,boundV,szIs,storeOp,storeS,setRowV,eff,extV,buildV,splice,eqSV,fitsL,eqCells,eqCell,minmaxV,capV,binBV,nilCheckV,bytesV,V.cells,V.stays,Orc.nothing,c160,hxs])
    refine effR_new fun id1 σ1 s1 a1 f1 => ?_
    simp -implicitDefEqProofs only [BB,seval,← decide_not,okind,vpre,vpure,intBin,intPre,strBin,strPre,popTo,argSlots,fldV,fldAV,subCells,idxVV,idxAAV,idxSV,sliceV,sliceSV,boundV,szIs,storeOp,storeS,setRowV,eff,extV,buildV,splice,eqSV,fitsL,eqCells,eqCell,minmaxV,capV,binBV,nilCheckV,bytesV,V.cells,V.stays]
    refine effR_new fun id2 σ2 s2 a2 f2 => ?_
    have b1 := s2 _ _ a1
    simp -implicitDefEqProofs only [BB,seval,← decide_not,okind,vpre,vpure,intBin,intPre,strBin,strPre,popTo,argSlots,fldV,fldAV,subCells,idxVV,idxAAV,idxSV,sliceV,sliceSV,boundV,szIs,storeOp,storeS,setRowV,eff,extV,buildV,splice,eqSV,fitsL,eqCells,eqCell,minmaxV,capV,binBV,nilCheckV,bytesV,V.cells,V.stays,b1,a2]
    exact retN s1 s2 f2 fun τ hs => wk_nd hs 1 1 0 0 0 0 0 0 ⟨a, b, c, d, e, f, g, h, i, j, k, l⟩
theorem slice2 (σ : Store) (x y : V) (l : List V) : sliceV σ 1 (.sl 1 (x :: y :: l)) (some (.int .i64 2)) none none = some (.sl 1 l) := by
  simp only [sliceV,boundV,List.length_cons]
  rw [if_pos ⟨by omega, by omega, by omega, by omega, trivial⟩]
  simp
  exact List.take_of_length_le (by omega)
theorem at0 (σ : Store) (x y : V) (l : List V) : idxAV σ 1 (.sl 1 (x :: y :: l)) (.int .i64 0) = some (.rp x) := by simp [idxAV]
theorem at1 (σ : Store) (x y : V) (l : List V) : idxAV σ 1 (.sl 1 (x :: y :: l)) (.int .i64 1) = some (.rp y) := by simp [idxAV]
theorem mtext_c (a b : Int) (r : List Int) : PFun Tryd.prog 161 [.agg [.sl 1 ((a :: b :: r).map vI)]] (encN (ndS (.text (a :: b :: r)))) := fun σ => by
  refine Contract.of_runs Tryd.func161 e161 k161 (by simp [c161]) ?_
  simp only [List.map_cons]
  (refine Runs.of_step Orc.nothing 300 ?_; simp -implicitDefEqProofs only [BB,seval,← decide_not,okind,vpre,vpure,intBin,intPre,strBin,strPre,popTo,argSlots,fldV,fldAV,subCells,idxVV,idxAAV,idxSV,sliceV,sliceSV,boundV,szIs,storeOp,storeS,setRowV,eff,extV,buildV,splice,eqSV,fitsL,eqCells,eqCell,minmaxV,capV,binBV,nilCheckV,bytesV,V.cells,V.stays,Orc.nothing,c161])
  refine effR_new fun id1 σ1 s1 a1 f1 => ?_
  simp -implicitDefEqProofs only [BB,seval,← decide_not,okind,vpre,vpure,intBin,intPre,strBin,strPre,popTo,argSlots,fldV,fldAV,subCells,idxVV,idxAAV,idxSV,sliceV,sliceSV,boundV,szIs,storeOp,storeS,setRowV,eff,extV,buildV,splice,eqSV,fitsL,eqCells,eqCell,minmaxV,capV,binBV,nilCheckV,bytesV,V.cells,V.stays]
  refine effR_new fun id2 σ2 s2 a2 f2 => ?_
  have b1 := s2 _ _ a1
  simp -implicitDefEqProofs only [BB,seval,← decide_not,okind,vpre,vpure,intBin,intPre,strBin,strPre,popTo,argSlots,fldV,fldAV,subCells,idxVV,idxAAV,idxSV,sliceSV,boundV,szIs,storeOp,storeS,setRowV,eff,extV,buildV,splice,eqSV,fitsL,eqCells,eqCell,minmaxV,capV,binBV,nilCheckV,bytesV,V.cells,V.stays,b1,a2,at0,at1,slice2]
  exact retN s1 s2 f2 fun τ hs => Wk.refl hs _
end Go.Vc
namespace Go.Vc
open Go.Proofs
mutual
/-- the nodes of a shape; of shapes -/
def toldS : Shp → List Nd
  | .box w h => [ndS (.box w h)]
  | .block s inner => { ndS (.block s inner) with size := 1 + ((toldL inner).length : Int) } :: toldL inner
  | .text ns => [ndS (.text ns)]
  | .float w h d => [ndS (.float w h d)]
def toldL : List Shp → List Nd
  | [] => []
  | x :: l => toldS x ++ toldL l
/-- twelve numbers in each block, two and more in each text -/
def wfS : Shp → Prop
  | .box _ _ => True
  | .block s inner => s.length = 12 ∧ wfL inner
  | .text ns => 2 ≤ ns.length
  | .float _ _ _ => True
def wfL : List Shp → Prop
  | [] => True
  | x :: l => wfS x ∧ wfL l
end
theorem toldL_append (a b : List Shp) : toldL (a ++ b) = toldL a ++ toldL b := by
  induction a with
  | nil => simp [toldL]
  | cons x l ih => simp [toldL, ih]
theorem wfL_get {l : List Shp} (h : wfL l) {i : Nat} (hi : i < l.length) : wfS l[i] := by
  induction l generalizing i with
  | nil => simp at hi
  | cons x l ih =>
    rw [wfL] at h
    cases i with
    | zero => exact h.1
    | succ i => exact ih h.2 (by simpa using hi)
theorem toldL_take {l : List Shp} {i : Nat} (hi : i < l.length) : toldL (l.take (i + 1)) = toldL (l.take i) ++ toldS l[i] := by
  rw [List.take_succ, toldL_append, List.getElem?_eq_getElem hi]
  simp [toldL]
theorem toldL_mem {l : List Shp} {i : Nat} (hi : i < l.length) : (toldL (l.take i)).length + (toldS l[i]).length ≤ (toldL l).length := by
  have h1 : toldL l = toldL (l.take (i + 1)) ++ toldL (l.drop (i + 1)) := by rw [← toldL_append, List.take_append_drop]
  rw [h1, toldL_take hi]
  simp only [List.length_append]
  omega
theorem toldL_ge (l : List Shp) : l.length ≤ (toldL l).length := by
  induction l with
  | nil => simp
  | cons x l ih =>
    rw [toldL, List.length_append, List.length_cons]
    have : 1 ≤ (toldS x).length := by cases x <;> simp [toldS]
    omega
theorem idx_shp (σ : Store) {l : List Shp} {i : Nat} (hi : i < l.length) : idxAV σ 1 (.sl 1 (l.map encS)) (.int .i64 i) = some (.rp (encS l[i])) := by
  simp [idxAV, hi]
theorem loadV_rp_shp (σ : Store) (sz : Nat) (x : Shp) : loadV σ false sz (.rp (encS x)) = some (encS x) := by cases x <;> simp [encS, loadV]
theorem meth_c (x : Shp) (h : wfS x) : ∃ t v f, encS x = .iface t v ∧ ([(105, 159), (109, 160), (140, 161), (142, 162)] : List (TypeId × FuncId)).lookup t = some f ∧ PFun Tryd.prog f [v] (encN (ndS x)) := by
  cases x with
  | box w v => exact ⟨105, .agg [vI w, vI v], 159, by rw [encS], rfl, mbox_c w v⟩
  | float w v d => exact ⟨142, .agg [vI w, vI v, vI d], 162, by rw [encS], rfl, mfloat_c w v d⟩
  | block s inner =>
    rw [wfS] at h
    exact ⟨_, _, _, by rw [encS], rfl, mblock_c s h.1 (.sl 1 (encSs inner)) rfl rfl⟩
  | text ns =>
    rw [wfS] at h
    match ns, h with
    | a :: b :: r, _ => exact ⟨_, _, _, by rw [encS], rfl, mtext_c a b r⟩
set_option maxRecDepth 100000 in
theorem told_c : ∀ (F : Nat) (xs : List Shp), (toldL xs).length ≤ F → (toldL xs).length ≤ 1000000 → xs.length ≤ 1000000 → wfL xs → PFun Tryd.prog 35 [.sl 1 (xs.map encS)] (encNs (toldL xs)) := by
  intro F
  induction F using Nat.strongRecOn with
  | _ F ih =>
    intro xs hF hl hxl hwf σ
    refine Contract.of_runs Tryd.func35 e35 k35 (by simp [c35]) ?_
    refine Runs.mix 10 ?_
    have hlen : lenV false (.sl 1 (xs.map encS)) = some (.int .i64 (xs.length : Int)) := by simp [lenV]
    (refine Runs.of_step Orc.nothing 300 ?_; simp -implicitDefEqProofs only [BB,seval,effR_some,effD_some,← decide_not,okind,vpre,vpure,intBin,intPre,strBin,strPre,popTo,argSlots,fldV,fldAV,subCells,idxVV,idxAAV,idxSV,sliceV,sliceSV,boundV,szIs,storeOp,storeS,setRowV,eff,extV,buildV,splice,eqSV,fitsL,eqCells,eqCell,minmaxV,capV,binBV,nilCheckV,bytesV,V.cells,V.stays,Orc.nothing,c35,hlen])
    refine Runs.loop (fun m st => ∃ i, i ≤ xs.length ∧ m = xs.length - i ∧ SubStore σ st.σ ∧ OutV σ st.σ 37 20 (st.s 3) ((toldL (xs.take i)).map encN) ∧ st.s 10 = .sl 1 (xs.map encS) ∧ st.s 11 = vI (xs.length : Int) ∧ st.s 12 = vI (i : Int)) xs.length
      ⟨0, by omega, by omega, SubStore.refl σ, OutV.start, rfl, rfl, rfl⟩ ?_
    rintro m ⟨S, σc⟩ ⟨i, hi, rfl, sub, out, p10, p11, p12⟩
    simp only at sub out p10 p11 p12
    refine Runs.mix 10 ?_
    by_cases hlt : i < xs.length
    · have hlt' : ((i : Int) < (xs.length : Int)) = True := by simp [hlt]
      have hix := idx_shp σc hlt
      (refine Runs.of_step Orc.nothing 300 ?_; simp -implicitDefEqProofs only [BB,seval,effR_some,effD_some,← decide_not,okind,vpre,vpure,intBin,intPre,strBin,strPre,popTo,argSlots,fldV,fldAV,subCells,idxVV,idxAAV,idxSV,sliceV,sliceSV,boundV,szIs,storeOp,storeS,setRowV,eff,extV,buildV,splice,eqSV,fitsL,eqCells,eqCell,minmaxV,capV,binBV,nilCheckV,bytesV,V.cells,V.stays,Orc.nothing,p10,p11,p12,hlt',hix,loadV_rp_shp])
      obtain ⟨t, v, f, h1, h2, h3⟩ := meth_c xs[i] (wfL_get hwf hlt)
      refine Runs.inv (t := t) (v := v) rfl rfl (by exact h1) h2 (h3 _) ?_
      rintro r1 σ1 ⟨rfl, rfl⟩
      (refine Runs.of_step Orc.nothing 300 ?_; simp -implicitDefEqProofs only [BB,seval,← decide_not,okind,vpre,vpure,intBin,intPre,strBin,strPre,popTo,argSlots,fldV,fldAV,subCells,idxVV,idxAAV,idxSV,sliceV,sliceSV,boundV,szIs,storeOp,storeS,setRowV,eff,extV,buildV,splice,eqSV,fitsL,eqCells,eqCell,minmaxV,capV,binBV,nilCheckV,bytesV,V.cells,V.stays,Orc.nothing])
      refine effR_new fun id6 σ6 s6 a6 f6 => ?_
      have z6 : σ id6 = none := sub.none f6
      have sub6 : SubStore σ σ6 := sub.trans s6
      have out6 := out.mono s6
      have htas : tasV 109 true (.agg [.int .i64 0, .int .i64 0, .int .i64 0, .int .i64 0, .int .i64 0, .int .i64 0, .int .i64 0, .int .i64 0, .int .i64 0, .int .i64 0, .int .i64 0, .int .i64 0, .nils]) (encS xs[i]) = (match xs[i] with
        | .block s inner => some (.tup [.agg (s.map vI ++ [.sl 1 (encSs inner)]), .bool true])
        | _ => some (.tup [.agg [.int .i64 0, .int .i64 0, .int .i64 0, .int .i64 0, .int .i64 0, .int .i64 0, .int .i64 0, .int .i64 0, .int .i64 0, .int .i64 0, .int .i64 0, .int .i64 0, .nils], .bool false])) := by
        cases xs[i] <;> simp [encS, tasV]
      have hwx := wfL_get hwf hlt
      have htk := toldL_take hlt
      have hmem := toldL_mem hlt
      generalize hx : xs[i] = x at *
      have plain : (∀ s inner, x ≠ .block s inner) → toldS x = [ndS x] ∧ tasV 109 true (.agg [.int .i64 0, .int .i64 0, .int .i64 0, .int .i64 0, .int .i64 0, .int .i64 0, .int .i64 0, .int .i64 0, .int .i64 0, .int .i64 0, .int .i64 0, .int .i64 0, .nils]) (encS x) = some (.tup [.agg [.int .i64 0, .int .i64 0, .int .i64 0, .int .i64 0, .int .i64 0, .int .i64 0, .int .i64 0, .int .i64 0, .int .i64 0, .int .i64 0, .int .i64 0, .int .i64 0, .nils], .bool false]) := by
        intro hb
        cases x with
        | block s inner => exact absurd rfl (hb s inner)
        | box w h => exact ⟨by rw [toldS], htas⟩
        | text ns => exact ⟨by rw [toldS], htas⟩
        | float w h d => exact ⟨by rw [toldS], htas⟩
      by_cases hb : ∃ s inner, x = .block s inner
      · obtain ⟨s, inner, rfl⟩ := hb
        simp only at htas
        rw [wfS] at hwx
        rw [encSs_eq] at htas
        generalize hxv : encS (Shp.block s inner) = xv at *
        have hbs : toldS (.block s inner) = { ndS (.block s inner) with size := 1 + ((toldL inner).length : Int) } :: toldL inner := by rw [toldS]
        rw [hbs] at htk hmem
        simp only [List.length_cons] at hmem
        have hcl : (s.map vI ++ [V.sl 1 (inner.map encS)]).length = 13 := by simp [hwx.1]
        have hs00 : setRowV (.agg [.int .i64 0, .int .i64 0, .int .i64 0, .int .i64 0, .int .i64 0, .int .i64 0, .int .i64 0, .int .i64 0, .int .i64 0, .int .i64 0, .int .i64 0, .int .i64 0, .nils]) 0 13 (.agg (s.map vI ++ [.sl 1 (inner.map encS)])) = some (.agg (s.map vI ++ [.sl 1 (inner.map encS)])) := by
          unfold setRowV
          rw [if_pos ⟨hcl, rfl⟩, if_pos ⟨rfl, rfl⟩]
        have h12 : (s.map vI ++ [V.sl 1 (inner.map encS)])[12]? = some (.sl 1 (inner.map encS)) := by
          rw [List.getElem?_append_right (by simp [hwx.1])]; simp [hwx.1]
        generalize hy : ndS (Shp.block s inner) = y at *
        have hysz : y.size = 1 := by rw [← hy]; rfl
        simp -implicitDefEqProofs only [BB,seval,← decide_not,okind,vpre,vpure,intBin,intPre,strBin,strPre,popTo,argSlots,fldV,fldAV,subCells,idxVV,idxAAV,idxSV,sliceV,sliceSV,boundV,szIs,storeOp,storeS,setRowV,eff,extV,buildV,splice,eqSV,fitsL,eqCells,eqCell,minmaxV,capV,binBV,nilCheckV,bytesV,V.cells,V.stays,a6,encN,Nd.cells,htas]
        refine effR_new fun id7 σ7 s7 a7 f7 => ?_
        have b6 : σ7 id6 = some ⟨37, 20, [.agg y.cells]⟩ := s7 _ _ upd_same
        have n67 : id6 ≠ id7 := ne_new (σ := upd σ6 id6 ⟨37, 20, [.agg y.cells]⟩) upd_same f7
        have S1 := s6.updK (o := ⟨37, 20, [.agg y.cells]⟩) f6
        simp only [Nd.cells,hysz] at b6
        simp -implicitDefEqProofs only [BB,seval,← decide_not,okind,vpre,vpure,intBin,intPre,strBin,strPre,popTo,argSlots,fldV,fldAV,subCells,idxVV,idxAAV,idxSV,sliceV,sliceSV,boundV,szIs,storeOp,storeS,eff,extV,buildV,splice,eqSV,fitsL,eqCells,eqCell,minmaxV,capV,binBV,nilCheckV,bytesV,V.cells,V.stays,a7,hs00,h12,V.cells_agg]
        have hge := toldL_ge inner
        refine Runs.pcall rfl rfl rfl (ih (toldL inner).length (by omega) inner (Nat.le_refl _) (by omega) (by omega) hwx.2 _) ?_
        have hle : lenV false (encNs (toldL inner)) = some (.int .i64 ((toldL inner).length : Int)) := by simp [encNs, lenV]
        have hin1 : inR .i64 (1 + ((toldL inner).length : Int)) := inR_i64 (by omega) (by omega)
        (refine Runs.of_step Orc.nothing 300 ?_; simp -implicitDefEqProofs only [BB,seval,← decide_not,okind,vpre,vpure,intBin,intPre,strBin,strPre,popTo,argSlots,fldV,fldAV,subCells,idxVV,idxAAV,idxSV,sliceV,sliceSV,boundV,szIs,storeOp,storeS,setRowV,eff,extV,buildV,splice,eqSV,fitsL,eqCells,eqCell,minmaxV,capV,binBV,nilCheckV,bytesV,V.cells,V.stays,Orc.nothing,b6,upd_ne n67,hle,hin1])
        refine effR_new fun id40 σ40 s40 a40 f40 => ?_
        have S2 := SubStore.trans (SubStore.updK (S1.trans (s7.updK f7)) f6) s40
        obtain ⟨idA, hda, hdA⟩ := out.dst' S2
        have hb : ((toldL (xs.take i)).length + 1) * 177 ≤ 140737488355328 := by omega
        simp -implicitDefEqProofs only [BB,seval,← decide_not,okind,vpre,vpure,intBin,intPre,strBin,strPre,popTo,argSlots,fldV,fldAV,subCells,idxVV,idxAAV,idxSV,sliceV,sliceSV,boundV,szIs,storeOp,storeS,setRowV,eff,extV,buildV,splice,eqSV,fitsL,eqCells,eqCell,minmaxV,capV,binBV,nilCheckV,bytesV,V.cells_agg,V.cells_int,V.cells_nils,V.cells_own,V.cells_sl,V.cells_str,V.cells_bool,V.cells_fn,V.cells_ptr,V.cells_rp,V.stays_agg,V.stays_int,V.stays_nils,V.stays_own,V.stays_sl,V.stays_str,V.stays_bool,V.stays_fn,V.stays_ptr,V.stays_rp,hda,srcOne a40,List.length_map,hb]
        refine effR_put fun id41 σ41 s41 a41 f41 => ?_
        have keep41 : ∀ q o, σ q = some o → σ41 q = some o := fun q o ho => keepA hdA s41 q o (by rw [ho]; simp) (S2 _ _ (sub _ _ ho))
        have out41 := OutV.new (K := σ) (n := (toldL (xs.take i)).length + 1) (by simp) a41 (sub.none (S2.none f41))
        obtain ⟨idB, hdb, hdB⟩ := out41.dst' (SubStore.refl σ41)
        have hsr : srcRows σ41 20 (encNs (toldL inner)) = some ((toldL inner).map encN) := by simp [encNs, srcRows]
        have hb2 : ((toldL (xs.take i)).length + 1 + (toldL inner).length) * 177 ≤ 140737488355328 := by omega
        simp -implicitDefEqProofs only [BB,seval,← decide_not,okind,vpre,vpure,intBin,intPre,strBin,strPre,popTo,argSlots,fldV,fldAV,subCells,idxVV,idxAAV,idxSV,sliceV,sliceSV,boundV,szIs,storeOp,storeS,setRowV,eff,extV,buildV,splice,eqSV,fitsL,eqCells,eqCell,minmaxV,capV,binBV,nilCheckV,bytesV,V.cells_agg,V.cells_int,V.cells_nils,V.cells_own,V.cells_sl,V.cells_str,V.cells_bool,V.cells_fn,V.cells_ptr,V.cells_rp,V.stays_agg,V.stays_int,V.stays_nils,V.stays_own,V.stays_sl,V.stays_str,V.stays_bool,V.stays_fn,V.stays_ptr,V.stays_rp,hdb,hsr,List.length_append,List.length_map,hb2]
        refine effR_put fun id43 σ43 s43 a43 f43 => ?_
        have hin : inR .i64 ((i : Int) + 1) := inR_i64 (by omega) (by omega)
        simp -implicitDefEqProofs only [BB,seval,← decide_not,okind,vpre,vpure,intBin,intPre,strBin,strPre,popTo,argSlots,fldV,fldAV,subCells,idxVV,idxAAV,idxSV,sliceV,sliceSV,boundV,szIs,storeOp,storeS,setRowV,eff,extV,buildV,splice,eqSV,fitsL,eqCells,eqCell,minmaxV,capV,binBV,nilCheckV,bytesV,V.cells,V.stays,p10,p11,p12,hin]
        have sub43 : SubStore σ σ43 := fun q o ho => keepA hdB s43 q o (by rw [ho]; simp) (keep41 _ _ ho)
        refine ⟨xs.length - (i + 1), by omega, i + 1, by omega, rfl, sub43, ?_, by simp⟩
        rw [htk, List.map_append]
        refine OutV.new (by simp; omega) (by rw [a43]; simp [encN, Nd.cells, List.append_assoc]) (by
          cases hs : σ id43 with
          | none => rfl
          | some o => rw [keep41 _ _ hs] at f43; cases f43)
      · obtain ⟨q1, q2⟩ := plain fun s inner e => hb ⟨s, inner, e⟩
        rw [q1] at htk hmem
        simp only [List.length_cons,List.length_nil] at hmem
        generalize hy : ndS x = y at *
        simp -implicitDefEqProofs only [BB,seval,← decide_not,okind,vpre,vpure,intBin,intPre,strBin,strPre,popTo,argSlots,fldV,fldAV,subCells,idxVV,idxAAV,idxSV,sliceV,sliceSV,boundV,szIs,storeOp,storeS,setRowV,eff,extV,buildV,splice,eqSV,fitsL,eqCells,eqCell,minmaxV,capV,binBV,nilCheckV,bytesV,V.cells,V.stays,a6,encN,Nd.cells,q2]
        refine effR_new fun id7 σ7 s7 a7 f7 => ?_
        have b6 : σ7 id6 = some ⟨37, 20, [.agg y.cells]⟩ := s7 _ _ upd_same
        have n67 : id6 ≠ id7 := ne_new (σ := upd σ6 id6 ⟨37, 20, [.agg y.cells]⟩) upd_same f7
        have S1 := s6.updK (o := ⟨37, 20, [.agg y.cells]⟩) f6
        simp only [Nd.cells] at b6
        simp -implicitDefEqProofs only [BB,seval,← decide_not,okind,vpre,vpure,intBin,intPre,strBin,strPre,popTo,argSlots,fldV,fldAV,subCells,idxVV,idxAAV,idxSV,sliceV,sliceSV,boundV,szIs,storeOp,storeS,setRowV,eff,extV,buildV,splice,eqSV,fitsL,eqCells,eqCell,minmaxV,capV,binBV,nilCheckV,bytesV,V.cells,V.stays,a7,b6,upd_ne n67]
        refine effR_new fun id27 σ27 s27 a27 f27 => ?_
        have S2 := (S1.trans (s7.updK f7)).trans s27
        obtain ⟨idA, hda, hdA⟩ := out.dst' S2
        have hb : ((toldL (xs.take i)).length + 1) * 177 ≤ 140737488355328 := by omega
        simp -implicitDefEqProofs only [BB,seval,← decide_not,okind,vpre,vpure,intBin,intPre,strBin,strPre,popTo,argSlots,fldV,fldAV,subCells,idxVV,idxAAV,idxSV,sliceV,sliceSV,boundV,szIs,storeOp,storeS,setRowV,eff,extV,buildV,splice,eqSV,fitsL,eqCells,eqCell,minmaxV,capV,binBV,nilCheckV,bytesV,V.cells_agg,V.cells_int,V.cells_nils,V.cells_own,V.cells_sl,V.cells_str,V.cells_bool,V.cells_fn,V.cells_ptr,V.cells_rp,V.stays_agg,V.stays_int,V.stays_nils,V.stays_own,V.stays_sl,V.stays_str,V.stays_bool,V.stays_fn,V.stays_ptr,V.stays_rp,hda,srcOne a27,List.length_map,hb]
        refine effR_put fun id28 σ28 s28 a28 f28 => ?_
        have hin : inR .i64 ((i : Int) + 1) := inR_i64 (by omega) (by omega)
        simp -implicitDefEqProofs only [BB,seval,← decide_not,okind,vpre,vpure,intBin,intPre,strBin,strPre,popTo,argSlots,fldV,fldAV,subCells,idxVV,idxAAV,idxSV,sliceV,sliceSV,boundV,szIs,storeOp,storeS,setRowV,eff,extV,buildV,splice,eqSV,fitsL,eqCells,eqCell,minmaxV,capV,binBV,nilCheckV,bytesV,V.cells,V.stays,p10,p11,p12,hin]
        have sub28 : SubStore σ σ28 := fun q o ho => keepA hdA s28 q o (by rw [ho]; simp) (S2 _ _ (sub _ _ ho))
        refine ⟨xs.length - (i + 1), by omega, i + 1, by omega, rfl, sub28, ?_, by simp⟩
        rw [htk, List.map_append]
        exact OutV.new (by simp) (by rw [a28]; rfl) (sub.none (S2.none f28))
    · have e : i = xs.length := by omega
      subst e
      have hlt' : ((xs.length : Int) < (xs.length : Int)) = False := by simp
      (refine Runs.of_step Orc.nothing 300 ?_; simp -implicitDefEqProofs only [BB,seval,effR_some,effD_some,← decide_not,okind,vpre,vpure,intBin,intPre,strBin,strPre,popTo,argSlots,fldV,fldAV,subCells,idxVV,idxAAV,idxSV,sliceV,sliceSV,boundV,szIs,storeOp,storeS,setRowV,eff,extV,buildV,splice,eqSV,fitsL,eqCells,eqCell,minmaxV,capV,binBV,nilCheckV,bytesV,V.cells,V.stays,Orc.nothing,p10,p11,p12,hlt'])
      rw [List.take_length] at out
      exact out.retv sub rfl
end Go.Vc
namespace Go.Vc
open Go.Proofs
theorem textR_ge (l : List Tk) : 2 ≤ (textR l).1.length := by unfold textR; simp
theorem nodesR_wf : ∀ (f : Nat) (l : List Tk), wfL (nodesR f l).1 ∧ (toldL (nodesR f l).1).length + (nodesR f l).2.1.length ≤ l.length
  | 0, l => ⟨by simp [nodesR, wfL], by simp [nodesR, toldL]⟩
  | f + 1, l => by
    have hT : ∀ l w, wfL (if w = true then (([] : List Shp), l, true) else nodesR f l).1 ∧ (toldL (if w = true then (([] : List Shp), l, true) else nodesR f l).1).length + (if w = true then (([] : List Shp), l, true) else nodesR f l).2.1.length ≤ l.length := by
      intro l w
      split
      · exact ⟨by simp [wfL], by simp [toldL]⟩
      · exact nodesR_wf f l
    unfold nodesR
    split
    · rename_i hs
      have h1 := (takeR_yes hs).2
      have h2 := attrsT_len (fun _ => true) plainS l.tail false
      have h3 := hT (attrsT (fun _ => true) plainS l.tail false).2.1 (attrsT (fun _ => true) plainS l.tail false).2.2
      simp only
      generalize attrsT (fun _ => true) plainS l.tail false = a at *
      generalize (if a.2.2 = true then (([] : List Shp), a.2.1, true) else nodesR f a.2.1) = n at *
      have h4 := takeR_len 93 n.2.1 n.2.2
      generalize takeR 93 n.2.1 n.2.2 = c at *
      have h5 := hT c.1 c.2
      refine ⟨by rw [wfL, wfS]; exact ⟨⟨h2.1, h3.1⟩, h5.1⟩, ?_⟩
      rw [toldL, toldS]
      simp only [List.length_append,List.length_cons]
      omega
    · split
      · rename_i hs
        have h1 := textR_len hs
        have h2 := textR_ge l
        simp only
        have h5 := hT (textR l).2.1 (textR l).2.2
        refine ⟨by rw [wfL, wfS]; exact ⟨h2, h5.1⟩, ?_⟩
        rw [toldL, toldS]
        simp only [List.length_append,List.length_cons,List.length_nil]
        omega
      · split
        · rename_i hs
          have h1 := (takeR_yes hs).2
          have h2 := boxR_len 125 l.tail false
          simp only
          have h5 := hT (boxR 125 l.tail false).2.2.1 (boxR 125 l.tail false).2.2.2
          refine ⟨by rw [wfL, wfS]; exact ⟨trivial, h5.1⟩, ?_⟩
          rw [toldL, toldS]
          simp only [List.length_append,List.length_cons,List.length_nil]
          omega
        · split
          · rename_i hs
            have h1 := floatR_len hs
            have hx : ∃ w h d, (floatR l false).1 = .float w h d := ⟨_, _, _, rfl⟩
            simp only
            have h5 := hT (floatR l false).2.1 (floatR l false).2.2
            obtain ⟨w, v, d, hx⟩ := hx
            rw [hx]
            refine ⟨by rw [wfL, wfS]; exact ⟨trivial, h5.1⟩, ?_⟩
            rw [toldL, toldS]
            simp only [List.length_append,List.length_cons,List.length_nil]
            omega
          · exact ⟨by simp [wfL], by simp [toldL]⟩
theorem fromT_len : ∀ (L l : List Tk), fromT L = .ok l → l.length ≤ L.length
  | [], l, h => by simp only [fromT,Res.ok.injEq] at h; subst h; simp
  | t :: L, l, h => by
    unfold fromT at h
    split at h
    · cases h
    · cases hL : fromT L with
      | bad p => rw [hL] at h; simp [Res.cons] at h
      | ok m =>
        rw [hL] at h
        simp only [Res.cons,Res.ok.injEq] at h
        subst h
        have := fromT_len L m hL
        simp only [List.length_cons]; omega
theorem ofI_len {s : List UInt8} {l : List Tk} (h : ofI s false 0 = .ok l) : l.length ≤ s.length := by
  rw [← ofC_eq] at h
  unfold ofC at h
  split at h
  · exact Nat.le_trans (fromT_len _ _ h) (by simpa using allI_len s s.length 0 0 (by omega))
  · split at h <;> cases h
def readR (s : List UInt8) : List Nd × Int × Int := match ofI s false 0 with
  | .bad p => ([], p, 1)
  | .ok l => match (nodesR l.length l).2.1 with
    | t :: _ => ([], t.at', 1)
    | [] => if (nodesR l.length l).2.2 then ([], s.length, 1) else (toldL (nodesR l.length l).1, 0, 0)
def readV (r : List Nd × Int × Int) : V := .tup [encNs r.1, vI r.2.1, vI r.2.2]
theorem retE {σ : Store} {a b : Int} {τ : Store} (h : SubStore σ τ) : RetV (.tup [.nils, vI a, vI b]) τ fun r σ' => r = readV ([], a, b) ∧ σ' = σ :=
  ⟨_, σ, h, Wk.tup (by simp only [WkL]; exact ⟨Wk.nils 20, Wk.refl h _, Wk.refl h _, trivial⟩), rfl, rfl⟩
theorem readOf_c (s : List UInt8) (hs : s.length ≤ 1000000) : PFun Tryd.prog 12 [.str s] (readV (readR s)) := fun σ => by
  refine Contract.of_runs Tryd.func12 e12 k12 (by simp [c12]) ?_
  refine Runs.mix 8 ?_
  (refine Runs.of_step Orc.nothing 300 ?_; simp -implicitDefEqProofs only [BB,seval,effR_some,effD_some,← decide_not,okind,vpre,vpure,intBin,intPre,strBin,strPre,popTo,argSlots,fldV,fldAV,subCells,idxVV,idxAAV,idxSV,sliceV,sliceSV,boundV,szIs,storeOp,storeS,setRowV,eff,extV,buildV,splice,eqSV,fitsL,eqCells,eqCell,minmaxV,capV,binBV,nilCheckV,bytesV,V.cells,V.stays,Orc.nothing,c12])
  refine Runs.pcall rfl rfl rfl (of_lex s hs _) ?_
  cases hl : ofI s false 0 with
  | bad p =>
    have hr : readR s = ([], (p : Int), 1) := by rw [readR, hl]
    rw [hr]
    (refine Runs.of_step Orc.nothing 300 ?_; simp -implicitDefEqProofs only [BB,seval,effR_some,effD_some,← decide_not,okind,vpre,vpure,intBin,intPre,strBin,strPre,popTo,argSlots,fldV,fldAV,subCells,idxVV,idxAAV,idxSV,sliceV,sliceSV,boundV,szIs,storeOp,storeS,setRowV,eff,extV,buildV,splice,eqSV,fitsL,eqCells,eqCell,minmaxV,capV,binBV,nilCheckV,bytesV,V.cells,V.stays,Orc.nothing,resT])
    exact retE (SubStore.refl _)
  | ok l =>
    have hll := ofI_len hl
    (refine Runs.of_step Orc.nothing 300 ?_; simp -implicitDefEqProofs only [BB,seval,← decide_not,okind,vpre,vpure,intBin,intPre,strBin,strPre,popTo,argSlots,fldV,fldAV,subCells,idxVV,idxAAV,idxSV,sliceV,sliceSV,boundV,szIs,storeOp,storeS,setRowV,eff,extV,buildV,splice,eqSV,fitsL,eqCells,eqCell,minmaxV,capV,binBV,nilCheckV,bytesV,V.cells,V.stays,Orc.nothing,resT])
    refine effR_new fun id6 σ6 s6 a6 f6 => ?_
    have h6 : σ6 id6 = some (rdr l false) := a6
    simp -implicitDefEqProofs only [BB,seval,← decide_not,okind,vpre,vpure,intBin,intPre,strBin,strPre,popTo,argSlots,fldV,fldAV,subCells,idxVV,idxAAV,idxSV,sliceV,sliceSV,boundV,szIs,storeOp,storeS,setRowV,eff,extV,buildV,splice,eqSV,fitsL,eqCells,eqCell,minmaxV,capV,binBV,nilCheckV,bytesV,V.cells,V.stays]
    refine Runs.call rfl rfl rfl (nodes_c l.length σ6 id6 l false (Nat.le_refl _) (by omega) h6) ?_
    have hn0 : nodesT l.length l false = nodesR l.length l := rfl
    rw [hn0]
    have hwf := nodesR_wf l.length l
    generalize hn : nodesR l.length l = n at *
    rintro r1 σ7 ⟨rfl, hσ7⟩
    have hσ7 : σ7 = upd σ6 id6 (rdr n.2.1 n.2.2) := hσ7
    have sub7 : SubStore σ σ7 := by rw [hσ7]; exact s6.updK f6
    have h7 : σ7 id6 = some (rdr n.2.1 n.2.2) := by rw [hσ7]; exact upd_same
    cases hrest : n.2.1 with
    | cons t r =>
      have hr : readR s = ([], t.at', 1) := by rw [readR, hl]; simp only [hn,hrest]
      rw [hr]
      rw [hrest] at h7
      have h7 : σ7 id6 = some ⟨57, 2, [.agg [.sl 4 (encT t :: r.map encT), .bool n.2.2]]⟩ := h7
      (refine Runs.of_step Orc.nothing 300 ?_; simp -implicitDefEqProofs only [BB,seval,effR_some,effD_some,← decide_not,okind,vpre,vpure,intBin,intPre,strBin,strPre,popTo,argSlots,fldV,fldAV,subCells,idxVV,idxAAV,idxSV,sliceV,sliceSV,boundV,szIs,storeOp,storeS,setRowV,eff,extV,buildV,splice,eqSV,fitsL,eqCells,eqCell,minmaxV,capV,binBV,nilCheckV,bytesV,V.cells,V.stays,Orc.nothing,h7,len1,idx0])
      exact retE sub7
    | nil =>
      rw [hrest] at h7 hwf
      have h7 : σ7 id6 = some ⟨57, 2, [.agg [.sl 4 [], .bool n.2.2]]⟩ := h7
      cases hw : n.2.2 with
      | true =>
        have hr : readR s = ([], (s.length : Int), 1) := by rw [readR, hl]; simp only [hn,hrest,hw,if_true]
        rw [hr]
        rw [hw] at h7
        (refine Runs.of_step Orc.nothing 300 ?_; simp -implicitDefEqProofs only [BB,seval,effR_some,effD_some,← decide_not,okind,vpre,vpure,intBin,intPre,strBin,strPre,popTo,argSlots,fldV,fldAV,subCells,idxVV,idxAAV,idxSV,sliceV,sliceSV,boundV,szIs,storeOp,storeS,setRowV,eff,extV,buildV,splice,eqSV,fitsL,eqCells,eqCell,minmaxV,capV,binBV,nilCheckV,bytesV,V.cells,V.stays,Orc.nothing,h7,len0])
        exact retE sub7
      | false =>
        have hr : readR s = (toldL n.1, 0, 0) := by rw [readR, hl]; simp only [hn,hrest,hw,Bool.false_eq_true,if_false]
        rw [hr]
        rw [hw] at h7
        (refine Runs.of_step Orc.nothing 300 ?_; simp -implicitDefEqProofs only [BB,seval,effR_some,effD_some,← decide_not,okind,vpre,vpure,intBin,intPre,strBin,strPre,popTo,argSlots,fldV,fldAV,subCells,idxVV,idxAAV,idxSV,sliceV,sliceSV,boundV,szIs,storeOp,storeS,setRowV,eff,extV,buildV,splice,eqSV,fitsL,eqCells,eqCell,minmaxV,capV,binBV,nilCheckV,bytesV,V.cells,V.stays,Orc.nothing,h7,len0])
        simp only [List.length_nil,Nat.add_zero] at hwf
        refine Runs.pcall rfl rfl rfl (told_c l.length n.1 hwf.2 (by omega) (Nat.le_trans (toldL_ge _) (by omega)) hwf.1 _) ?_
        (refine Runs.of_step Orc.nothing 300 ?_; simp -implicitDefEqProofs only [BB,seval,effR_some,effD_some,← decide_not,okind,vpre,vpure,intBin,intPre,strBin,strPre,popTo,argSlots,fldV,fldAV,subCells,idxVV,idxAAV,idxSV,sliceV,sliceSV,boundV,szIs,storeOp,storeS,setRowV,eff,extV,buildV,splice,eqSV,fitsL,eqCells,eqCell,minmaxV,capV,binBV,nilCheckV,bytesV,V.cells,V.stays,Orc.nothing])
        exact RetV.pure sub7 rfl
end Go.Vc
namespace Go.Vc
open Go.Proofs
def lettersB : List UInt8 := [109, 110, 112, 113, 105, 111, 119, 104, 66, 65, 73, 99]
end Go.Vc
namespace Go.Vc
open Go.Proofs
def limR (c : Int) : Int × Int := if c = 111 ∨ c = 119 ∨ c = 104 then (1, MX) else if c = 66 ∨ c = 65 then (0, 4) else if c = 73 then (0, 1) else if c = 99 then (0, 3) else (0, MX)
end Go.Vc
namespace Go.Vc
theorem len0_nil {l : List Tk} (h : l.length ≤ ([] : List Tk).length) : l = [] := List.length_eq_zero_iff.1 (by simpa using h)
theorem sign_app {c : Int} {t : Tk} {l r : List Tk} : signB c (t :: l ++ r) = signB c (t :: l) := rfl
theorem num_app {a b : Int} {t : Tk} {l r : List Tk} : numB a b (t :: l ++ r) = numB a b (t :: l) := rfl
theorem nodesR_none {f : Nat} {l : List Tk} (h1 : signB 91 l = false) (h2 : signB 40 l = false) (h3 : signB 123 l = false) (h4 : signB 60 l = false) : nodesR f l = ([], l, false) := by
  cases f with
  | zero => rfl
  | succ f => rw [nodesR, if_neg (by simp [h1]), if_neg (by simp [h2]), if_neg (by simp [h3]), if_neg (by simp [h4])]
theorem nodesR_block {f : Nat} {l : List Tk} (h1 : signB 91 l = true) : nodesR (f + 1) l = (Shp.block (attrsT (fun _ => true) plainS l.tail false).1 (nodesT f (attrsT (fun _ => true) plainS l.tail false).2.1 (attrsT (fun _ => true) plainS l.tail false).2.2).1 ::
    (nodesT f (takeR 93 (nodesT f (attrsT (fun _ => true) plainS l.tail false).2.1 (attrsT (fun _ => true) plainS l.tail false).2.2).2.1 (nodesT f (attrsT (fun _ => true) plainS l.tail false).2.1 (attrsT (fun _ => true) plainS l.tail false).2.2).2.2).1 (takeR 93 (nodesT f (attrsT (fun _ => true) plainS l.tail false).2.1 (attrsT (fun _ => true) plainS l.tail false).2.2).2.1 (nodesT f (attrsT (fun _ => true) plainS l.tail false).2.1 (attrsT (fun _ => true) plainS l.tail false).2.2).2.2).2).1,
    (nodesT f (takeR 93 (nodesT f (attrsT (fun _ => true) plainS l.tail false).2.1 (attrsT (fun _ => true) plainS l.tail false).2.2).2.1 (nodesT f (attrsT (fun _ => true) plainS l.tail false).2.1 (attrsT (fun _ => true) plainS l.tail false).2.2).2.2).1 (takeR 93 (nodesT f (attrsT (fun _ => true) plainS l.tail false).2.1 (attrsT (fun _ => true) plainS l.tail false).2.2).2.1 (nodesT f (attrsT (fun _ => true) plainS l.tail false).2.1 (attrsT (fun _ => true) plainS l.tail false).2.2).2.2).2).2) := by
  rw [nodesR, if_pos h1]; rfl
theorem nodesR_text {f : Nat} {l : List Tk} (h1 : signB 91 l = false) (h2 : signB 40 l = true) : nodesR (f + 1) l = (Shp.text (textR l).1 :: (nodesT f (textR l).2.1 (textR l).2.2).1, (nodesT f (textR l).2.1 (textR l).2.2).2) := by
  rw [nodesR, if_neg (by simp [h1]), if_pos h2]; rfl
theorem nodesR_box {f : Nat} {l : List Tk} (h1 : signB 91 l = false) (h2 : signB 40 l = false) (h3 : signB 123 l = true) : nodesR (f + 1) l = (Shp.box (boxR 125 l.tail false).1 (boxR 125 l.tail false).2.1 ::
    (nodesT f (boxR 125 l.tail false).2.2.1 (boxR 125 l.tail false).2.2.2).1, (nodesT f (boxR 125 l.tail false).2.2.1 (boxR 125 l.tail false).2.2.2).2) := by
  rw [nodesR, if_neg (by simp [h1]), if_neg (by simp [h2]), if_pos h3]; rfl
theorem nodesR_float {f : Nat} {l : List Tk} (h1 : signB 91 l = false) (h2 : signB 40 l = false) (h3 : signB 123 l = false) (h4 : signB 60 l = true) : nodesR (f + 1) l = ((floatR l false).1 ::
    (nodesT f (floatR l false).2.1 (floatR l false).2.2).1, (nodesT f (floatR l false).2.1 (floatR l false).2.2).2) := by
  rw [nodesR, if_neg (by simp [h1]), if_neg (by simp [h2]), if_neg (by simp [h3]), if_pos h4]; rfl
theorem sign_cases (l : List Tk) : signB 91 l = true ∨ (signB 91 l = false ∧ signB 40 l = true) ∨ (signB 91 l = false ∧ signB 40 l = false ∧ signB 123 l = true) ∨ (signB 91 l = false ∧ signB 40 l = false ∧ signB 123 l = false ∧ signB 60 l = true) ∨
    (signB 91 l = false ∧ signB 40 l = false ∧ signB 123 l = false ∧ signB 60 l = false) := by
  cases signB 91 l <;> cases signB 40 l <;> cases signB 123 l <;> cases signB 60 l <;> simp
end Go.Vc
namespace Go.Vc
theorem take_ok {c : Int} {l r : List Tk} {w : Bool} (h : (takeR c l w).2 = false) : takeR c (l ++ r) w = ((takeR c l w).1 ++ r, false) ∧ l ≠ [] ∧ w = false := by
  unfold takeR at h ⊢
  split at h
  · cases h
  · rename_i hn
    rw [if_neg hn]
    simp only [Bool.or_eq_true,Bool.not_eq_true',not_or,Bool.not_eq_true] at hn
    obtain ⟨rfl, hs⟩ := hn
    cases l with
    | nil => simp [signB] at hs
    | cons t l =>
      have hs : signB c (t :: l) = true := by simpa using hs
      rw [if_neg (by rw [sign_app, hs]; simp)]
      exact ⟨rfl, by simp, rfl⟩
theorem count_ok {a b : Int} {l r : List Tk} {w : Bool} (h : (countR a b l w).2.2 = false) : countR a b (l ++ r) w = ((countR a b l w).1, (countR a b l w).2.1 ++ r, false) ∧ l ≠ [] ∧ w = false := by
  cases l with
  | nil => simp [countR] at h
  | cons t l =>
    rw [countR] at h ⊢
    split at h
    · cases h
    · rename_i hn
      rw [if_neg hn]
      rw [List.cons_append, countR, ← List.cons_append, num_app, if_neg hn]
      refine ⟨rfl, by simp, ?_⟩
      cases w with
      | false => rfl
      | true => simp at hn
theorem nodesT_false (f : Nat) (l : List Tk) : nodesT f l false = nodesR f l := rfl
theorem nodes_fuel : ∀ (m : Nat) (l : List Tk) (w : Bool) (f F : Nat), l.length ≤ m → l.length ≤ f → l.length ≤ F → nodesT f l w = nodesT F l w := by
  intro m
  induction m using Nat.strongRecOn with
  | _ m ih =>
    intro l w f F hm hf hF
    cases w with
    | true => rfl
    | false =>
      rw [nodesT_false, nodesT_false]
      cases l with
      | nil => rw [nodesR_none rfl rfl rfl rfl, nodesR_none rfl rfl rfl rfl]
      | cons t l =>
        simp only [List.length_cons] at hm hf hF
        obtain ⟨f, rfl⟩ : ∃ g, f = g + 1 := ⟨f - 1, by omega⟩
        obtain ⟨F, rfl⟩ : ∃ g, F = g + 1 := ⟨F - 1, by omega⟩
        rcases sign_cases (t :: l) with q | ⟨q1, q2⟩ | ⟨q1, q2, q3⟩ | ⟨q1, q2, q3, q4⟩ | ⟨q1, q2, q3, q4⟩
        · rw [nodesR_block q, nodesR_block q]
          simp only [List.tail_cons]
          have ha1 := (attrsT_len (fun _ => true) plainS l false).2
          generalize attrsT (fun _ => true) plainS l false = a at *
          rw [ih l.length (by omega) a.2.1 a.2.2 f F (by omega) (by omega) (by omega)]
          have hn2 := nodesT_len F a.2.1 a.2.2
          generalize nodesT F a.2.1 a.2.2 = n at *
          have hc1 := takeR_len 93 n.2.1 n.2.2
          generalize takeR 93 n.2.1 n.2.2 = c at *
          rw [ih l.length (by omega) c.1 c.2 f F (by omega) (by omega) (by omega)]
        · rw [nodesR_text q1 q2, nodesR_text q1 q2]
          have ha1 := textR_len q2
          generalize textR (t :: l) = a at *
          simp only [List.length_cons] at ha1
          rw [ih l.length (by omega) a.2.1 a.2.2 f F (by omega) (by omega) (by omega)]
        · rw [nodesR_box q1 q2 q3, nodesR_box q1 q2 q3]
          simp only [List.tail_cons]
          have ha1 := boxR_len 125 l false
          generalize boxR 125 l false = a at *
          rw [ih l.length (by omega) a.2.2.1 a.2.2.2 f F (by omega) (by omega) (by omega)]
        · rw [nodesR_float q1 q2 q3 q4, nodesR_float q1 q2 q3 q4]
          have ha1 := floatR_len q4
          generalize floatR (t :: l) false = a at *
          simp only [List.length_cons] at ha1
          rw [ih l.length (by omega) a.2.1 a.2.2 f F (by omega) (by omega) (by omega)]
        · rw [nodesR_none q1 q2 q3 q4, nodesR_none q1 q2 q3 q4]
end Go.Vc
namespace Go.Vc
theorem ofI_bad_lt (s : List UInt8) : ∀ (m i : Nat) (c : Bool), s.length - i ≤ m → ∀ p, ofI s c i = .bad p → p < s.length := by
  intro m
  induction m with
  | zero => intro i c hm l h; rw [ofI_end (by omega)] at h; cases h
  | succ m ih =>
    intro i c hm l h
    by_cases hlt : i < s.length
    · by_cases hz : sizeR s i = 0
      · rw [ofI_bad hlt hz] at h; cases h; exact hlt
      · have cons : ∀ (r : Res) (t : Tk), r.cons t = .bad l → r = .bad l := fun r t hr => by
          cases r with
          | ok l' => cases hr
          | bad q => cases hr; rfl
        cases c
        · by_cases h35 : byt s i = 35
          · rw [ofI_hash hlt hz h35] at h
            exact ih _ _ (by omega) l h
          · by_cases hw : byt s i = 32 ∨ byt s i = 9 ∨ byt s i = 10
            · rw [ofI_white hlt hz hw] at h
              exact ih _ _ (by omega) l h
            · by_cases hd : 48 ≤ byt s i ∧ byt s i ≤ 57
              · have hdp := digLen_pos hd.1 hd.2
                rw [ofI_num hlt hz hd] at h
                split at h
                · cases h; exact hlt
                · exact ih _ _ (by omega) l (cons _ _ h)
              · rw [ofI_sign hlt hz (by omega)] at h
                exact ih _ _ (by omega) l (cons _ _ h)
        · rw [ofI_com hlt hz] at h
          exact ih _ _ (by omega) l h
    · rw [ofI_end hlt] at h; cases h
theorem ofI_at (s : List UInt8) : ∀ (m i : Nat) (c : Bool), s.length - i ≤ m → ∀ l, ofI s c i = .ok l → ∀ t ∈ l, (i : Int) ≤ t.at' ∧ t.at' < s.length := by
  intro m
  induction m with
  | zero => intro i c hm l h; rw [ofI_end (by omega)] at h; cases h; simp
  | succ m ih =>
    intro i c hm l h t ht
    by_cases hlt : i < s.length
    · by_cases hz : sizeR s i = 0
      · rw [ofI_bad hlt hz] at h; cases h
      · have cons : ∀ (r : Res) (t : Tk), r.cons t = .ok l → ∃ l', r = .ok l' ∧ l = t :: l' := fun r t hr => by
          cases r with
          | ok l' => exact ⟨l', rfl, by simpa [Res.cons] using hr.symm⟩
          | bad => cases hr
        cases c
        · by_cases h35 : byt s i = 35
          · rw [ofI_hash hlt hz h35] at h
            have := ih _ _ (by omega) l h t ht; omega
          · by_cases hw : byt s i = 32 ∨ byt s i = 9 ∨ byt s i = 10
            · rw [ofI_white hlt hz hw] at h
              have := ih _ _ (by omega) l h t ht; omega
            · by_cases hd : 48 ≤ byt s i ∧ byt s i ≤ 57
              · have hdp := digLen_pos hd.1 hd.2
                rw [ofI_num hlt hz hd] at h
                split at h
                · cases h
                · obtain ⟨l', h1, rfl⟩ := cons _ _ h
                  rcases List.mem_cons.1 ht with rfl | ht
                  · simp only; omega
                  · have := ih _ _ (by omega) l' h1 t ht; omega
              · rw [ofI_sign hlt hz (by omega)] at h
                obtain ⟨l', h1, rfl⟩ := cons _ _ h
                rcases List.mem_cons.1 ht with rfl | ht
                · simp only; omega
                · have := ih _ _ (by omega) l' h1 t ht; omega
        · rw [ofI_com hlt hz] at h
          have := ih _ _ (by omega) l h t ht; omega
    · rw [ofI_end hlt] at h; cases h; cases ht
theorem rest_suffix_take (c : Int) (l : List Tk) (w : Bool) : ∃ p, l = p ++ (takeR c l w).1 := by
  unfold takeR
  split
  · exact ⟨[], rfl⟩
  · cases l with
    | nil => exact ⟨[], rfl⟩
    | cons t l => exact ⟨[t], rfl⟩
theorem rest_suffix_count (a b : Int) (l : List Tk) (w : Bool) : ∃ p, l = p ++ (countR a b l w).2.1 := by
  cases l with
  | nil => exact ⟨[], rfl⟩
  | cons t l =>
    rw [countR]
    split
    · exact ⟨[], rfl⟩
    · exact ⟨[t], rfl⟩
theorem rest_suffix_nums : ∀ (l : List Tk), ∃ p, l = p ++ (numsR l).2
  | [] => ⟨[], rfl⟩
  | t :: l => by
    rw [numsR]
    split
    · obtain ⟨p, hp⟩ := rest_suffix_nums l
      exact ⟨t :: p, by rw [List.cons_append, ← hp]⟩
    · exact ⟨[], rfl⟩
theorem suf_trans {l m n : List Tk} (h1 : ∃ p, l = p ++ m) (h2 : ∃ p, m = p ++ n) : ∃ p, l = p ++ n := by
  obtain ⟨p, rfl⟩ := h1
  obtain ⟨q, rfl⟩ := h2
  exact ⟨p ++ q, by simp⟩
theorem rest_suffix_attrs : ∀ (m : Nat) (l : List Tk) (av : Int → Bool) (s : List Int) (w : Bool), l.length ≤ m → ∃ p, l = p ++ (attrsT av s l w).2.1 := by
  intro m
  induction m with
  | zero =>
    intro l av s w hm
    have h0 : l = [] := List.length_eq_zero_iff.1 (by omega)
    subst h0
    exact ⟨[], by rw [len0_nil (attrsT_len av s [] w).2]; rfl⟩
  | succ m ih =>
    intro l av s w hm
    cases w with
    | true => exact ⟨[], rfl⟩
    | false =>
      cases l with
      | nil => exact ⟨[], by rw [len0_nil (attrsT_len av s [] false).2]; rfl⟩
      | cons t l =>
        by_cases h1 : t.kind = 1
        · cases h3 : av t.sign with
          | false =>
            refine ⟨[], ?_⟩
            rw [attrsT, if_neg (by simp), attrsR, if_pos h1, h3]
            rfl
          | true =>
            cases h4 : spec t.sign with
            | none =>
              refine ⟨[], ?_⟩
              rw [attrsT, if_neg (by simp), attrsR, if_pos h1, h3]
              simp only [if_true,h4,List.nil_append]
            | some q =>
              obtain ⟨k, a, b⟩ := q
              rw [attrsT, if_neg (by simp), attrsT_step h1 h3 h4]
              have hl := count_len a b l false
              simp only [List.length_cons] at hm
              obtain ⟨p, hp⟩ := suf_trans (rest_suffix_count a b l false) (ih _ (fun c => if c = t.sign then false else av c) (s.set k (countR a b l false).1) (countR a b l false).2.2 (by omega))
              exact ⟨t :: p, by rw [List.cons_append, ← hp]⟩
        · refine ⟨[], ?_⟩
          rw [attrsT, if_neg (by simp), attrsR, if_neg h1]
          rfl
theorem tail_suffix (l : List Tk) : ∃ p, l = p ++ l.tail := by
  cases l with
  | nil => exact ⟨[], rfl⟩
  | cons t l => exact ⟨[t], rfl⟩
theorem rest_suffix_box (e : Int) (l : List Tk) (w : Bool) : ∃ p, l = p ++ (boxR e l w).2.2.1 :=
  suf_trans (rest_suffix_count 1 MX l w) (suf_trans (rest_suffix_count _ _ _ _) (rest_suffix_take e _ _))
theorem rest_suffix_text (l : List Tk) : ∃ p, l = p ++ (textR l).2.1 :=
  suf_trans (rest_suffix_take 40 l false) (suf_trans (rest_suffix_count _ _ _ _) (suf_trans (rest_suffix_count _ _ _ _) (suf_trans (rest_suffix_count _ _ _ _) (suf_trans (rest_suffix_nums _) (rest_suffix_take 41 _ _)))))
theorem rest_suffix_float (l : List Tk) : ∃ p, l = p ++ (floatR l false).2.1 :=
  suf_trans (rest_suffix_take 60 l false) (suf_trans (rest_suffix_take _ _ _) (rest_suffix_box 62 _ _))
theorem rest_suffix : ∀ (f : Nat) (l : List Tk) (w : Bool), ∃ p, l = p ++ (nodesT f l w).2.1
  | f, l, true => ⟨[], rfl⟩
  | 0, l, false => ⟨[], rfl⟩
  | f + 1, l, false => by
    rw [nodesT_false]
    rcases sign_cases l with q | ⟨q1, q2⟩ | ⟨q1, q2, q3⟩ | ⟨q1, q2, q3, q4⟩ | ⟨q1, q2, q3, q4⟩
    · rw [nodesR_block q]
      exact suf_trans (tail_suffix l) (suf_trans (rest_suffix_attrs _ _ _ _ _ (Nat.le_refl _)) (suf_trans (rest_suffix f _ _) (suf_trans (rest_suffix_take 93 _ _) (rest_suffix f _ _))))
    · rw [nodesR_text q1 q2]
      exact suf_trans (rest_suffix_text l) (rest_suffix f _ _)
    · rw [nodesR_box q1 q2 q3]
      exact suf_trans (tail_suffix l) (suf_trans (rest_suffix_box 125 _ _) (rest_suffix f _ _))
    · rw [nodesR_float q1 q2 q3 q4]
      exact suf_trans (rest_suffix_float l) (rest_suffix f _ _)
    · rw [nodesR_none q1 q2 q3 q4]
      exact ⟨[], rfl⟩
theorem readR_bad {s : List UInt8} (h : (readR s).2.2 ≠ 0) : (readR s).1 = [] ∧ (readR s).2.2 = 1 ∧ 0 ≤ (readR s).2.1 ∧ (readR s).2.1 ≤ s.length := by
  unfold readR at h ⊢
  cases hl : ofI s false 0 with
  | bad p =>
    have := ofI_bad_lt s _ 0 false (Nat.le_refl _) p hl
    exact ⟨rfl, rfl, by simp only; omega, by simp only; omega⟩
  | ok l =>
    rw [hl] at h
    simp only at h ⊢
    have hat := ofI_at s _ 0 false (Nat.le_refl _) l hl
    obtain ⟨p, hp⟩ := rest_suffix l.length l false
    rw [nodesT_false] at hp
    cases hn : (nodesR l.length l).2.1 with
    | cons t r =>
      rw [hn] at hp
      have := hat t (by rw [hp]; simp)
      simp only
      exact ⟨trivial, trivial, by omega, by omega⟩
    | nil =>
      rw [hn] at h
      simp only at h ⊢
      split
      · simp only
        exact ⟨trivial, trivial, by omega, by omega⟩
      · rename_i hw
        rw [if_neg hw] at h
        exact absurd rfl h
theorem readR_ok {s : List UInt8} (h : (readR s).2.2 = 0) : (readR s).2.1 = 0 ∧ ∃ l, ofI s false 0 = .ok l ∧ (nodesR l.length l).2 = ([], false) ∧ (readR s).1 = toldL (nodesR l.length l).1 := by
  unfold readR at h ⊢
  cases hl : ofI s false 0 with
  | bad p => rw [hl] at h; simp at h
  | ok l =>
    rw [hl] at h
    simp only at h ⊢
    cases hn : (nodesR l.length l).2.1 with
    | cons t r => rw [hn] at h; simp at h
    | nil =>
      rw [hn] at h
      simp only at h ⊢
      cases hw : (nodesR l.length l).2.2 with
      | true => rw [hw] at h; simp at h
      | false => exact ⟨rfl, l, rfl, Prod.ext hn hw, rfl⟩
end Go.Vc
namespace Go.Vc
open Go.Proofs
theorem FzL.same {σ : Store} {N : Nat → Prop} : ∀ (vs : List V), noidL vs = true → FzL σ N vs vs
  | [], _ => .nil
  | v :: vs, h => by
    simp only [noidL,Bool.and_eq_true] at h
    exact .cons _ _ _ _ (.same v h.1) (FzL.same vs h.2)
theorem FzL.app {σ : Store} {N : Nat → Prop} : ∀ {a b c d : List V}, FzL σ N a b → FzL σ N c d → FzL σ N (a ++ c) (b ++ d)
  | _, _, _, _, .nil, h => h
  | _, _, _, _, .cons v u vs us h h', h2 => .cons v u _ _ h (FzL.app h' h2)
theorem FzL.one {σ : Store} {N : Nat → Prop} {v u : V} (h : Fz σ N v u) : FzL σ N [v] [u] := .cons _ _ _ _ h .nil
theorem OutV.upd_ne {K σ : Store} {e sz : Nat} {v : V} {rows : List V} (h : OutV K σ e sz v rows) {id : Nat} {o : Ob} (hK : K id ≠ none) : OutV K (upd σ id o) e sz v rows := by
  rcases h with h | ⟨q, h1, h2, h3⟩
  · exact .inl h
  · have : q ≠ id := fun e => hK (by rw [← e]; exact h3)
    exact .inr ⟨q, h1, by rw [Vc.upd_ne this]; exact h2, h3⟩
def ndW (x : Nd) (v : V) : V := .agg [vI x.kind, vI x.size, vI x.st.top, vI x.st.bottom, vI x.st.padTop, vI x.st.padBottom, vI x.st.inset, vI x.st.orphans, vI x.st.widows, vI x.st.head, vI x.st.before, vI x.st.after, vI x.st.inside, vI x.st.clear, vI x.line, vI x.space, v, vI x.side, vI x.w, vI x.h]
structure XInv (K σ : Store) (id5 : Nat) (x : Nd) (v : V) : Prop where
  off : Off id5 K σ
  r5 : σ id5 = some ⟨37, 20, [ndW x v]⟩
  out : OutV K σ 3 1 v (x.words.map vI)
theorem XInv.push {K σ σ1 σ2 : Store} {id5 i2 : Nat} {x : Nd} {v : V} {n : Int} {idA : Option Nat} (inv : XInv K σ id5 x v) (hK : K id5 ≠ none) (s1 : SubStore σ σ1) (hA : ∀ i, idA = some i → K i = none ∧ ∃ o, σ i = some o)
    (s2 : SubStore (delO σ1 idA) σ2) (a2 : σ2 i2 = some ⟨3, 1, x.words.map vI ++ [vI n]⟩) (f2 : σ1 i2 = none) :
    XInv K (upd σ2 id5 ⟨37, 20, [ndW { x with words := x.words ++ [n] } (.own i2 0 (x.words.length + 1))]⟩) id5 { x with words := x.words ++ [n] } (.own i2 0 (x.words.length + 1)) where
  off := Off.upd fun q hq o ho => keepA hA s2 q o (by rw [ho]; simp) (s1 _ _ (inv.off q hq o ho))
  r5 := upd_same
  out := by
    have f : σ i2 = none := s1.none f2
    have hne : i2 ≠ id5 := fun e => by rw [e, inv.r5] at f; cases f
    refine OutV.new (by simp) (by rw [upd_ne hne, a2]; simp) ?_
    exact inv.off.none inv.r5 f
end Go.Vc
namespace Go.Vc
theorem spec_some {c : Int} {q : Nat × Int × Int} (h : spec c = some q) : (∃ b ∈ lettersB, c = (b.toNat : Int)) ∧ limR c = (q.2.1, q.2.2) := by
  have ex : ∀ b : UInt8, b ∈ lettersB → spec (b.toNat : Int) = some q → c = (b.toNat : Int) → limR (b.toNat : Int) = (q.2.1, q.2.2) → (∃ b ∈ lettersB, c = (b.toNat : Int)) ∧ limR c = (q.2.1, q.2.2) := fun b hb _ e hl => ⟨⟨b, hb, e⟩, by rw [e]; exact hl⟩
  by_cases h0 : c = 99
  · subst h0; refine ex 99 (by decide) h rfl ?_; cases h; rfl
  by_cases h1 : c = 73
  · subst h1; refine ex 73 (by decide) h rfl ?_; cases h; rfl
  by_cases h2 : c = 65
  · subst h2; refine ex 65 (by decide) h rfl ?_; cases h; rfl
  by_cases h3 : c = 66
  · subst h3; refine ex 66 (by decide) h rfl ?_; cases h; rfl
  by_cases h4 : c = 104
  · subst h4; refine ex 104 (by decide) h rfl ?_; cases h; rfl
  by_cases h5 : c = 119
  · subst h5; refine ex 119 (by decide) h rfl ?_; cases h; rfl
  by_cases h6 : c = 111
  · subst h6; refine ex 111 (by decide) h rfl ?_; cases h; rfl
  by_cases h7 : c = 105
  · subst h7; refine ex 105 (by decide) h rfl ?_; cases h; rfl
  by_cases h8 : c = 113
  · subst h8; refine ex 113 (by decide) h rfl ?_; cases h; rfl
  by_cases h9 : c = 112
  · subst h9; refine ex 112 (by decide) h rfl ?_; cases h; rfl
  by_cases h10 : c = 110
  · subst h10; refine ex 110 (by decide) h rfl ?_; cases h; rfl
  by_cases h11 : c = 109
  · subst h11; refine ex 109 (by decide) h rfl ?_; cases h; rfl
  exfalso
  rw [spec, if_neg h0, if_neg h1, if_neg h2, if_neg h3, if_neg h4, if_neg h5, if_neg h6, if_neg h7, if_neg h8, if_neg h9, if_neg h10, if_neg h11] at h
  cases h
end Go.Vc
namespace Go.Vc
theorem nums_len : ∀ (l : List Tk), (numsR l).1.length + (numsR l).2.length = l.length
  | [] => rfl
  | t :: r => by
    have := nums_len r
    rw [numsR]
    split
    · simp only [List.length_cons]; omega
    · simp
theorem text_words {l : List Tk} (h : signB 40 l = true) : ((textR l).1.drop 2).length ≤ l.length := by
  unfold textR
  simp only
  obtain ⟨e, hl⟩ := takeR_yes h
  rw [e]
  simp only
  have h1 := count_len 1 MX l.tail false
  generalize countR 1 MX l.tail false = c1 at *
  have h2 := count_len 0 MX c1.2.1 c1.2.2
  generalize countR 0 MX c1.2.1 c1.2.2 = c2 at *
  have h3 := count_len 1 MX c2.2.1 c2.2.2
  generalize countR 1 MX c2.2.1 c2.2.2 = c3 at *
  have h4 := nums_len c3.2.1
  simp only [List.cons_append,List.nil_append,List.drop_succ_cons,List.drop_zero,List.length_cons]
  omega
theorem told_words : ∀ (f : Nat) (l : List Tk) (w : Bool), ∀ x ∈ toldL (nodesT f l w).1, x.words.length ≤ l.length
  | f, l, true => by intro x hx; cases hx
  | 0, l, false => by intro x hx; cases hx
  | f + 1, l, false => by
    intro x hx
    rw [nodesT_false] at hx
    rcases sign_cases l with q | ⟨q1, q2⟩ | ⟨q1, q2, q3⟩ | ⟨q1, q2, q3, q4⟩ | ⟨q1, q2, q3, q4⟩
    · rw [nodesR_block q] at hx
      have h0 := (takeR_yes q).2
      have h1 := (attrsT_len (fun _ => true) plainS l.tail false).2
      generalize attrsT (fun _ => true) plainS l.tail false = a at *
      have h2 := nodesT_len f a.2.1 a.2.2
      have i1 := told_words f a.2.1 a.2.2
      generalize nodesT f a.2.1 a.2.2 = n at *
      have h3 := takeR_len 93 n.2.1 n.2.2
      generalize takeR 93 n.2.1 n.2.2 = c at *
      have i2 := told_words f c.1 c.2
      rw [toldL, toldS, List.cons_append, List.mem_cons, List.mem_append] at hx
      rcases hx with rfl | hx | hx
      · simp [ndS]
      · have := i1 x hx; omega
      · have := i2 x hx; omega
    · rw [nodesR_text q1 q2] at hx
      have h0 := textR_len q2
      have h1 := text_words q2
      generalize textR l = a at *
      have i2 := told_words f a.2.1 a.2.2
      rw [toldL, toldS, List.cons_append, List.mem_cons, List.nil_append] at hx
      rcases hx with rfl | hx
      · exact h1
      · have := i2 x hx; omega
    · rw [nodesR_box q1 q2 q3] at hx
      have h0 := (takeR_yes q3).2
      have h1 := boxR_len 125 l.tail false
      generalize boxR 125 l.tail false = a at *
      have i2 := told_words f a.2.2.1 a.2.2.2
      rw [toldL, toldS, List.cons_append, List.mem_cons, List.nil_append] at hx
      rcases hx with rfl | hx
      · simp [ndS]
      · have := i2 x hx; omega
    · rw [nodesR_float q1 q2 q3 q4] at hx
      have h0 := floatR_len q4
      have hf : ∃ w h d, (floatR l false).1 = .float w h d := ⟨_, _, _, rfl⟩
      obtain ⟨w, h, d, hf⟩ := hf
      rw [hf] at hx
      generalize floatR l false = a at *
      have i2 := told_words f a.2.1 a.2.2
      rw [toldL, toldS, List.cons_append, List.mem_cons, List.nil_append] at hx
      rcases hx with rfl | hx
      · simp [ndS]
      · have := i2 x hx; omega
    · rw [nodesR_none q1 q2 q3 q4] at hx
      cases hx
theorem readR_fine {s : List UInt8} {n : Nat} (hs : s.length ≤ n) : (readR s).1.length ≤ n ∧ ∀ x ∈ (readR s).1, x.words.length ≤ n := by
  by_cases h : (readR s).2.2 = 0
  · obtain ⟨_, l, hl, hn, ht⟩ := readR_ok h
    have hll := ofI_len hl
    have hw := (nodesR_wf l.length l).2
    have hx := told_words l.length l false
    rw [nodesT_false] at hx
    rw [ht]
    exact ⟨by omega, fun x hm => by have := hx x hm; omega⟩
  · rw [(readR_bad h).1]
    exact ⟨by simp, by simp⟩
def loK (k : Nat) : Int := if k = 5 ∨ k = 6 then 1 else 0
def hiK (k : Nat) : Int := if k = 8 ∨ k = 9 then 4 else if k = 10 then 1 else if k = 11 then 3 else MX
def okL (s : List Int) : Prop := ∀ k v, s[k]? = some v → loK k ≤ v ∧ v ≤ hiK k
theorem okL_plain : okL plainS := by
  intro k v h
  have hk : k < 12 := (List.getElem?_eq_some_iff.1 h).1
  have : ∀ k, k < 12 → ∀ v, plainS[k]? = some v → loK k ≤ v ∧ v ≤ hiK k := by
    intro k hk
    match k, hk with
    | 0, _ | 1, _ | 2, _ | 3, _ | 4, _ | 5, _ | 6, _ | 7, _ | 8, _ | 9, _ | 10, _ | 11, _ =>
      intro v h
      simp only [plainS,List.getElem?_cons_zero,List.getElem?_cons_succ,Option.some.injEq] at h
      subst h
      decide
  exact this k hk v h
theorem spec_ok {c : Int} {k : Nat} {a b : Int} (h : spec c = some (k, a, b)) : loK k ≤ a ∧ b ≤ hiK k := by
  have h0 := (spec_some h).1
  obtain ⟨u, hu, rfl⟩ := h0
  have hb : u = 109 ∨ u = 110 ∨ u = 112 ∨ u = 113 ∨ u = 105 ∨ u = 111 ∨ u = 119 ∨ u = 104 ∨ u = 66 ∨ u = 65 ∨ u = 73 ∨ u = 99 := by simpa [lettersB] using hu
  rcases hb with rfl | rfl | rfl | rfl | rfl | rfl | rfl | rfl | rfl | rfl | rfl | rfl <;> (cases h; decide)
theorem numB_is {a b : Int} {t : Tk} {r : List Tk} (h : numB a b (t :: r) = true) : a ≤ t.n ∧ t.n ≤ b := by
  simp only [numB,Bool.and_eq_true,decide_eq_true_eq] at h
  omega
theorem count_is {a b : Int} {l : List Tk} {w : Bool} (h : (countR a b l w).2.2 = false) : a ≤ (countR a b l w).1 ∧ (countR a b l w).1 ≤ b := by
  cases l with
  | nil => simp [countR] at h
  | cons t r =>
    rw [countR] at h ⊢
    split at h
    · cases h
    · rename_i hn
      rw [if_neg hn]
      simp only [Bool.or_eq_true,Bool.not_eq_true',not_or,Bool.not_eq_true,Bool.not_eq_false] at hn
      exact numB_is hn.2
theorem okL_set {s : List Int} (h : okL s) {k : Nat} {v : Int} (hv : loK k ≤ v ∧ v ≤ hiK k) : okL (s.set k v) := by
  intro j u hu
  rw [List.getElem?_set] at hu
  split at hu
  · rename_i e
    subst e
    split at hu
    · simp only [Option.some.injEq] at hu; subst hu; exact hv
    · cases hu
  · exact h j u hu
theorem attrs_okL : ∀ (m : Nat) (l : List Tk) (av : Int → Bool) (s : List Int) (w : Bool), l.length ≤ m → okL s → (attrsT av s l w).2.2 = false → okL (attrsT av s l w).1 := by
  intro m
  induction m with
  | zero =>
    intro l av s w hm hs h
    have h0 : l = [] := List.length_eq_zero_iff.1 (by omega)
    subst h0
    cases w with
    | true => cases h
    | false => exact hs
  | succ m ih =>
    intro l av s w hm hs h
    cases w with
    | true => cases h
    | false =>
      cases l with
      | nil => exact hs
      | cons t l =>
        by_cases h1 : t.kind = 1
        · cases h3 : av t.sign with
          | false =>
            rw [attrsT, if_neg (by simp), attrsR, if_pos h1, h3]
            exact hs
          | true =>
            cases h4 : spec t.sign with
            | none =>
              rw [attrsT, if_neg (by simp), attrsR, if_pos h1, h3]
              simp only [if_true,h4]
              exact hs
            | some q =>
              obtain ⟨k, a, b⟩ := q
              rw [attrsT, if_neg (by simp), attrsT_step h1 h3 h4] at h ⊢
              have hl := count_len a b l false
              simp only [List.length_cons] at hm
              have hc : (countR a b l false).2.2 = false := by
                cases hc : (countR a b l false).2.2 with
                | false => rfl
                | true => rw [hc] at h; cases h
              have hv := count_is hc
              have hk := spec_ok h4
              exact ih _ _ _ _ (by omega) (okL_set hs (by omega)) h
        · rw [attrsT, if_neg (by simp), attrsR, if_neg h1]
          exact hs
theorem styL_ok {s : List Int} (hl : s.length = 12) (h : okL s) : (styL s).ok = true := by
  match s, hl with
  | [x0, x1, x2, x3, x4, x5, x6, x7, x8, x9, x10, x11], _ =>
    have g0 := h 0 x0 rfl
    have g1 := h 1 x1 rfl
    have g2 := h 2 x2 rfl
    have g3 := h 3 x3 rfl
    have g4 := h 4 x4 rfl
    have g5 := h 5 x5 rfl
    have g6 := h 6 x6 rfl
    have g7 := h 7 x7 rfl
    have g8 := h 8 x8 rfl
    have g9 := h 9 x9 rfl
    have g10 := h 10 x10 rfl
    have g11 := h 11 x11 rfl
    simp [loK, hiK] at g0 g1 g2 g3 g4 g5 g6 g7 g8 g9 g10 g11
    have hMX : MX = 1099511627776 := rfl
    simp [styL, Sty.ok, isFrom, mx]
    omega
theorem box_is {e : Int} {l : List Tk} {w : Bool} (h : (boxR e l w).2.2.2 = false) : isFrom (boxR e l w).1 1 mx = true ∧ isFrom (boxR e l w).2.1 1 mx = true := by
  unfold boxR at h ⊢
  simp only at h ⊢
  have w3 : (countR 1 MX (countR 1 MX l w).2.1 (countR 1 MX l w).2.2).2.2 = false := (take_ok (r := []) h).2.2
  have w2 : (countR 1 MX l w).2.2 = false := (count_ok (r := []) w3).2.2
  have h1 := count_is w2
  have h2 := count_is w3
  have hMX : MX = 1099511627776 := rfl
  simp [isFrom, mx]
  omega
theorem nums_are : ∀ (l : List Tk), (numsR l).1.all (isFrom · 1 mx) = true
  | [] => rfl
  | t :: r => by
    rw [numsR]
    split
    · rename_i hn
      have := numB_is hn
      rw [List.all_cons, nums_are r]
      simp [isFrom, mx]
      omega
    · rfl
theorem text_is {l : List Tk} (h : (textR l).2.2 = false) : (ndS (.text (textR l).1)).ok = true := by
  unfold textR at h ⊢
  simp only at h ⊢
  obtain ⟨_, _, w5⟩ := take_ok (r := []) h
  obtain ⟨_, _, w4⟩ := count_ok (r := []) w5
  obtain ⟨_, _, w3⟩ := count_ok (r := []) w4
  have h1 := count_is w5
  have h2 := count_is w4
  have h3 := count_is w3
  have h4 := nums_are (countR 1 MX (countR 0 MX (countR 1 MX (takeR 40 l false).1 (takeR 40 l false).2).2.1 (countR 1 MX (takeR 40 l false).1 (takeR 40 l false).2).2.2).2.1
    (countR 0 MX (countR 1 MX (takeR 40 l false).1 (takeR 40 l false).2).2.1 (countR 1 MX (takeR 40 l false).1 (takeR 40 l false).2).2.2).2.2).2.1
  generalize (numsR _).1 = ws at *
  generalize (countR 1 MX (countR 0 MX (countR 1 MX (takeR 40 l false).1 (takeR 40 l false).2).2.1 (countR 1 MX (takeR 40 l false).1 (takeR 40 l false).2).2.2).2.1 (countR 0 MX (countR 1 MX (takeR 40 l false).1 (takeR 40 l false).2).2.1 (countR 1 MX (takeR 40 l false).1 (takeR 40 l false).2).2.2).2.2).1 = c3 at *
  generalize (countR 0 MX (countR 1 MX (takeR 40 l false).1 (takeR 40 l false).2).2.1 (countR 1 MX (takeR 40 l false).1 (takeR 40 l false).2).2.2).1 = c2 at *
  generalize (countR 1 MX (takeR 40 l false).1 (takeR 40 l false).2).1 = c1 at *
  simp only [ndS,List.cons_append,List.nil_append,List.getD_cons_zero,List.getD_cons_succ,List.drop_succ_cons,List.drop_zero,Nd.ok]
  simp only [List.all_cons,h4,List.length_cons]
  have hMX : MX = 1099511627776 := rfl
  simp [isFrom, mx]
  omega
theorem float_ok2 (w v d : Int) (hw : isFrom w 1 mx = true) (hv : isFrom v 1 mx = true) (hd : d = 1 ∨ d = 2) : (ndS (.float w v d)).ok = true := by
  rcases hd with rfl | rfl <;> (simp [ndS, Nd.ok, isFrom] at hw hv ⊢; exact ⟨hw, hv⟩)
theorem float_is {l : List Tk} (h : (floatR l false).2.2 = false) : ∃ w v d, (floatR l false).1 = .float w v d ∧ (ndS (.float w v d)).ok = true := by
  unfold floatR at h ⊢
  simp only at h ⊢
  have hb := box_is h
  refine ⟨_, _, _, rfl, float_ok2 _ _ _ hb.1 hb.2 ?_⟩
  split
  · exact .inr rfl
  · exact .inl rfl
theorem nodesT_wf (f : Nat) (c : RS) (h : (nodesT f c.1 c.2).2.2 = false) : c.2 = false := by
  cases hc : c.2 with
  | false => rfl
  | true => rw [hc] at h; cases h
theorem ok_size {x : Nd} (h : x.kind = 1) (n : Int) : ({ x with size := n } : Nd).ok = x.ok := by simp [Nd.ok, h]
theorem told_ok : ∀ (f : Nat) (l : List Tk) (w : Bool), (nodesT f l w).2.2 = false → ∀ x ∈ toldL (nodesT f l w).1, x.ok = true
  | f, l, true => by intro h; cases h
  | 0, l, false => by intro h x hx; cases hx
  | f + 1, l, false => by
    intro h x hx
    rw [nodesT_false] at hx h
    rcases sign_cases l with q | ⟨q1, q2⟩ | ⟨q1, q2, q3⟩ | ⟨q1, q2, q3, q4⟩ | ⟨q1, q2, q3, q4⟩
    · rw [nodesR_block q] at hx h
      have hal := (attrsT_len (fun _ => true) plainS l.tail false).1
      have hok := attrs_okL _ l.tail (fun _ => true) plainS false (Nat.le_refl _) okL_plain
      generalize attrsT (fun _ => true) plainS l.tail false = a at *
      have i1 := told_ok f a.2.1 a.2.2
      have wn := nodesT_wf f a.2
      generalize nodesT f a.2.1 a.2.2 = n at *
      have ht := take_ok (c := 93) (l := n.2.1) (r := []) (w := n.2.2)
      generalize takeR 93 n.2.1 n.2.2 = c at *
      have i2 := told_ok f c.1 c.2 h
      have wc := nodesT_wf f c h
      have wt := (ht wc).2.2
      rw [toldL, toldS, List.cons_append, List.mem_cons, List.mem_append] at hx
      rcases hx with rfl | hx | hx
      · rw [ok_size rfl]
        have hs := styL_ok (by rw [hal]; rfl) (hok (wn wt))
        simp [ndS, Nd.ok, hs]
      · exact i1 wt x hx
      · exact i2 x hx
    · rw [nodesR_text q1 q2] at hx h
      have hti := text_is (l := l)
      generalize textR l = a at *
      have i2 := told_ok f a.2.1 a.2.2 h
      have wc := nodesT_wf f a.2 h
      rw [toldL, toldS, List.cons_append, List.mem_cons, List.nil_append] at hx
      rcases hx with rfl | hx
      · exact hti wc
      · exact i2 x hx
    · rw [nodesR_box q1 q2 q3] at hx h
      have hbi := box_is (e := 125) (l := l.tail) (w := false)
      generalize boxR 125 l.tail false = a at *
      have i2 := told_ok f a.2.2.1 a.2.2.2 h
      have wc := nodesT_wf f a.2.2 h
      rw [toldL, toldS, List.cons_append, List.mem_cons, List.nil_append] at hx
      rcases hx with rfl | hx
      · obtain ⟨g1, g2⟩ := hbi wc
        simp [ndS, Nd.ok, g1, g2]
      · exact i2 x hx
    · rw [nodesR_float q1 q2 q3 q4] at hx h
      have hfi := float_is (l := l)
      generalize floatR l false = a at *
      have i2 := told_ok f a.2.1 a.2.2 h
      have wc := nodesT_wf f a.2 h
      obtain ⟨w, v, d, e, hk⟩ := hfi wc
      rw [e] at hx
      rw [toldL, toldS, List.cons_append, List.mem_cons, List.nil_append] at hx
      rcases hx with rfl | hx
      · exact hk
      · exact i2 x hx
    · rw [nodesR_none q1 q2 q3 q4] at hx
      cases hx
theorem rowsB_told : ∀ (m : Nat) (xs : List Shp) (pre post : List Nd), (toldL xs).length ≤ m → rowsB (pre ++ toldL xs ++ post) pre.length (pre.length + (toldL xs).length) = true := by
  intro m
  induction m with
  | zero =>
    intro xs pre post h
    have : (toldL xs).length = 0 := by omega
    rw [this]
    exact rowsB_nil _ _
  | succ m ih =>
    intro xs pre post h
    cases xs with
    | nil => simp only [toldL,List.length_nil,Nat.add_zero]; exact rowsB_nil _ _
    | cons x xs =>
      obtain ⟨hd, inner, ht, hsz, hk⟩ : ∃ (hd : Nd) (inner : List Shp), toldS x = hd :: toldL inner ∧ hd.size = 1 + ((toldL inner).length : Int) ∧ (hd.kind = 1 ∨ inner = []) := by
        cases x with
        | box w h => exact ⟨_, [], rfl, rfl, .inr rfl⟩
        | block s i => exact ⟨_, i, by rw [toldS], rfl, .inl rfl⟩
        | text ns => exact ⟨_, [], rfl, rfl, .inr rfl⟩
        | float w h d => exact ⟨_, [], rfl, rfl, .inr rfl⟩
      rw [toldL, ht] at h ⊢
      simp only [List.cons_append,List.length_cons,List.length_append] at h ⊢
      have hget : (pre ++ hd :: (toldL inner ++ toldL xs) ++ post)[pre.length]? = some hd := by simp
      rw [rowsB, dif_pos (by omega), hget]
      simp only
      rw [dif_pos (by omega)]
      have e1 : pre.length + hd.size.toNat = pre.length + 1 + (toldL inner).length := by omega
      rw [e1]
      have i1 := ih inner (pre ++ [hd]) (toldL xs ++ post) (by omega)
      have i2 := ih xs (pre ++ hd :: toldL inner) post (by omega)
      have l1 : pre ++ [hd] ++ toldL inner ++ (toldL xs ++ post) = pre ++ hd :: (toldL inner ++ toldL xs) ++ post := by simp
      have l2 : pre ++ hd :: toldL inner ++ toldL xs ++ post = pre ++ hd :: (toldL inner ++ toldL xs) ++ post := by simp
      rw [l1] at i1
      rw [l2] at i2
      simp only [List.length_append,List.length_cons,List.length_nil] at i1 i2
      rw [show pre.length + (0 + 1) + (toldL inner).length = pre.length + 1 + (toldL inner).length by omega, show pre.length + (0 + 1) = pre.length + 1 by omega] at i1
      rw [show pre.length + ((toldL inner).length + 1) + (toldL xs).length = pre.length + ((toldL inner).length + (toldL xs).length + 1) by omega, show pre.length + ((toldL inner).length + 1) = pre.length + 1 + (toldL inner).length by omega] at i2
      rw [i1, i2]
      rcases hk with hk | rfl
      · simp [hk]
      · have : hd.size ≤ 1 := by simp [toldL] at hsz; omega
        simp [this]
theorem readR_isB {s : List UInt8} (h : (readR s).2.2 = 0) : isB (readR s).1 = true := by
  obtain ⟨_, l, hl, hn, ht⟩ := readR_ok h
  rw [ht]
  have h1 := told_ok l.length l false (by rw [nodesT_false, hn])
  rw [nodesT_false] at h1
  have h2 := rowsB_told _ (nodesR l.length l).1 [] [] (Nat.le_refl _)
  simp only [List.nil_append,List.append_nil,List.length_nil,Nat.zero_add] at h2
  simp only [isB,Bool.and_eq_true,List.all_eq_true]
  exact ⟨h1, h2⟩
end Go.Vc
namespace Go.Vc
theorem rowsB_window (l : List Nd) (s k : Nat) : ∀ (m a e : Nat), e - a < m → e ≤ k → s + e ≤ l.length → rowsB ((l.drop s).take k) a e = rowsB l (s + a) (s + e)
  | 0, _, _, h, _, _ => by omega
  | m + 1, a, e, hm, hk, he => by
    rw [rowsB, rowsB]
    by_cases hae : a < e
    · rw [dif_pos hae, dif_pos (by omega)]
      have hg : ((l.drop s).take k)[a]? = l[s + a]? := by rw [List.getElem?_take, if_pos (by omega), List.getElem?_drop]
      rw [hg]
      cases hx : l[s + a]? with
      | none => rfl
      | some x =>
        simp only
        by_cases hc : 1 ≤ x.size ∧ x.size ≤ (e : Int) - a
        · rw [dif_pos hc, dif_pos (by omega)]
          rw [rowsB_window l s k m (a + 1) (a + x.size.toNat) (by omega) (by omega) (by omega), rowsB_window l s k m (a + x.size.toNat) e (by omega) hk he]
          rw [show s + (a + 1) = s + a + 1 by omega, show s + (a + x.size.toNat) = s + a + x.size.toNat by omega]
        · rw [dif_neg hc, dif_neg (by omega)]
    · rw [dif_neg hae, dif_neg (by omega)]
end Go.Vc
namespace Go.Vc
theorem isB_told {xs : List Shp} (h : ∀ x ∈ toldL xs, x.ok = true) : isB (toldL xs) = true := by
  have h2 := rowsB_told _ xs [] [] (Nat.le_refl _)
  simp only [List.nil_append,List.append_nil,List.length_nil,Nat.zero_add] at h2
  simp only [isB,Bool.and_eq_true,List.all_eq_true]
  exact ⟨h, h2⟩
end Go.Vc
namespace Go.Vc
theorem dec_step (u : Nat) (h : ¬ u < 10) : Lib.decDigits u = Lib.decDigits (u / 10) ++ [UInt8.ofNat (48 + u % 10)] := by rw [Lib.decDigits, dif_neg h]
theorem u8_of {n : Nat} (h : n < 256) : (UInt8.ofNat n).toNat = n := by simp [UInt8.toNat_ofNat']; omega
theorem dec_mem : ∀ (u : Nat), ∀ b ∈ Lib.decDigits u, 48 ≤ b.toNat ∧ b.toNat ≤ 57 := by
  intro u
  induction u using Nat.strongRecOn with
  | _ u ih =>
    by_cases h : u < 10
    · rw [Lib.decDigits_one h]
      intro b hb
      simp only [List.mem_cons,List.not_mem_nil,or_false] at hb
      subst hb
      rw [u8_of (by omega)]; omega
    · rw [dec_step u h]
      intro b hb
      rcases List.mem_append.1 hb with hb | hb
      · exact ih (u / 10) (by omega) b hb
      · simp only [List.mem_cons,List.not_mem_nil,or_false] at hb
        subst hb
        rw [u8_of (by omega)]; omega
theorem dec_ne (u : Nat) : Lib.decDigits u ≠ [] := by
  unfold Lib.decDigits
  split <;> simp
theorem dec_pos {u : Nat} (h : 0 < u) : ∃ b r, Lib.decDigits u = b :: r ∧ b ≠ 48 := by
  induction u using Nat.strongRecOn with
  | _ u ih =>
    by_cases h9 : u < 10
    · rw [Lib.decDigits_one h9]
      refine ⟨_, [], rfl, fun e => ?_⟩
      have := congrArg UInt8.toNat e
      rw [u8_of (by omega)] at this
      simp at this; omega
    · obtain ⟨b, r, h1, h2⟩ := ih (u / 10) (by omega) (by omega)
      rw [dec_step u h9, h1]
      exact ⟨b, _, rfl, h2⟩
theorem dec_lim : ∀ (u : Nat), u ≤ 1099511627776 → (Lib.decDigits u).length ≤ 13 := by
  have step : ∀ (k u : Nat), u < 10 ^ (k + 1) → (Lib.decDigits u).length ≤ k + 1 := by
    intro k
    induction k with
    | zero => intro u h; rw [Lib.decDigits_one (by simpa using h)]; simp
    | succ k ih =>
      intro u h
      by_cases h9 : u < 10
      · rw [Lib.decDigits_one h9]; simp
      · rw [dec_step u h9]
        have := ih (u / 10) (by rw [Nat.pow_succ] at h; omega)
        simp; omega
  intro u hu
  exact step 12 u (by omega)
theorem num_dec : ∀ (u : Nat), numR (Lib.decDigits u) = u := by
  intro u
  induction u using Nat.strongRecOn with
  | _ u ih =>
    by_cases h : u < 10
    · rw [Lib.decDigits_one h]
      simp only [numR,List.foldl_cons,List.foldl_nil,u8_of (show 48 + u < 256 by omega)]
      omega
    · rw [dec_step u h]
      have hi := ih (u / 10) (by omega)
      unfold numR at hi ⊢
      rw [List.foldl_append, hi]
      simp only [List.foldl_cons,List.foldl_nil,u8_of (show 48 + u % 10 < 256 by omega)]
      omega
theorem dec_head {u : Nat} (h : (Lib.decDigits u).head? = some 48) : (Lib.decDigits u).length = 1 := by
  rcases Nat.eq_zero_or_pos u with rfl | hu
  · rw [Lib.decDigits_one (by omega)]; rfl
  · obtain ⟨b, r, h1, h2⟩ := dec_pos hu
    rw [h1] at h
    simp only [List.head?_cons,Option.some.injEq] at h
    exact absurd h h2
def dg (n : Int) : List UInt8 := Lib.decDigits n.toNat
theorem dg_itoa {n : Int} (h : 0 ≤ n) : Lib.itoa n = dg n := by unfold Lib.itoa dg; rw [if_neg (by omega)]
def inN (n : Int) : Prop := 0 ≤ n ∧ n ≤ 1099511627776
theorem dg_len {n : Int} (h : inN n) : (dg n).length ≤ 13 ∧ 1 ≤ (dg n).length := by
  refine ⟨dec_lim _ (by unfold inN at h; omega), ?_⟩
  have := dec_ne n.toNat
  unfold dg
  cases hd : Lib.decDigits n.toNat with
  | nil => exact absurd hd this
  | cons => simp
def Tk.at0 (t : Tk) : Tk := { t with at' := 0 }
section
theorem sign_a0 (c : Int) (l : List Tk) : signB c (l.map (Tk.at0)) = signB c l := by cases l <;> rfl
theorem num_a0 (a b : Int) (l : List Tk) : numB a b (l.map (Tk.at0)) = numB a b l := by cases l <;> rfl
theorem take_a0 (c : Int) (l : List Tk) (w : Bool) : takeR c (l.map (Tk.at0)) w = ((takeR c l w).1.map (Tk.at0), (takeR c l w).2) := by
  unfold takeR
  rw [sign_a0]
  split
  · rfl
  · simp
theorem count_a0 (a b : Int) (l : List Tk) (w : Bool) : countR a b (l.map (Tk.at0)) w = ((countR a b l w).1, (countR a b l w).2.1.map (Tk.at0), (countR a b l w).2.2) := by
  cases l with
  | nil => rfl
  | cons t l =>
    rw [List.map_cons, countR, countR, ← List.map_cons, num_a0]
    split <;> rfl
theorem nums_a0 : ∀ (l : List Tk), numsR (l.map (Tk.at0)) = ((numsR l).1, (numsR l).2.map (Tk.at0))
  | [] => rfl
  | t :: l => by
    rw [List.map_cons, numsR, numsR, ← List.map_cons, num_a0, nums_a0 l]
    split <;> rfl
theorem box_a0 (e : Int) (l : List Tk) (w : Bool) : boxR e (l.map (Tk.at0)) w = ((boxR e l w).1, (boxR e l w).2.1, (boxR e l w).2.2.1.map (Tk.at0), (boxR e l w).2.2.2) := by
  unfold boxR
  simp only [count_a0,take_a0]
theorem text_a0 (l : List Tk) : textR (l.map (Tk.at0)) = ((textR l).1, (textR l).2.1.map (Tk.at0), (textR l).2.2) := by
  unfold textR
  simp only [take_a0,count_a0,nums_a0]
theorem float_a0 (l : List Tk) : floatR (l.map (Tk.at0)) false = ((floatR l false).1, (floatR l false).2.1.map (Tk.at0), (floatR l false).2.2) := by
  unfold floatR
  simp only [take_a0,sign_a0,box_a0]
theorem attrs_a0 : ∀ (m : Nat) (l : List Tk) (av : Int → Bool) (s : List Int) (w : Bool), l.length ≤ m → attrsT av s (l.map (Tk.at0)) w = ((attrsT av s l w).1, (attrsT av s l w).2.1.map (Tk.at0), (attrsT av s l w).2.2) := by
  intro m
  induction m with
  | zero =>
    intro l av s w hm
    have h0 : l = [] := List.length_eq_zero_iff.1 (by omega)
    subst h0
    cases w <;> rfl
  | succ m ih =>
    intro l av s w hm
    cases w with
    | true => rfl
    | false =>
      cases l with
      | nil => rfl
      | cons t l =>
        have ht : (Tk.at0 t).kind = t.kind ∧ (Tk.at0 t).sign = t.sign := ⟨rfl, rfl⟩
        by_cases h1 : t.kind = 1
        · cases h3 : av t.sign with
          | false =>
            rw [List.map_cons, attrsT, attrsT, if_neg (by simp), if_neg (by simp), attrsR, attrsR, if_pos h1, if_pos (by rw [ht.1]; exact h1), ht.2, h3]
            rfl
          | true =>
            cases h4 : spec t.sign with
            | none =>
              rw [List.map_cons, attrsT, attrsT, if_neg (by simp), if_neg (by simp), attrsR, attrsR, if_pos h1, if_pos (by rw [ht.1]; exact h1), ht.2, h3]
              simp only [if_true,h4,List.map_cons]
            | some q =>
              obtain ⟨k, a, b⟩ := q
              have hl := count_len a b l false
              simp only [List.length_cons] at hm
              rw [List.map_cons, attrsT, attrsT, if_neg (by simp), if_neg (by simp), attrsT_step h1 h3 h4, attrsT_step (t := Tk.at0 t) (by rw [ht.1]; exact h1) (by rw [ht.2]; exact h3) (by rw [ht.2]; exact h4), ht.2, count_a0]
              exact ih _ _ _ _ (by omega)
        · rw [List.map_cons, attrsT, attrsT, if_neg (by simp), if_neg (by simp), attrsR, attrsR, if_neg h1, if_neg (by rw [ht.1]; exact h1)]
          rfl
theorem nodes_a0 : ∀ (f : Nat) (l : List Tk) (w : Bool), nodesT f (l.map (Tk.at0)) w = ((nodesT f l w).1, (nodesT f l w).2.1.map (Tk.at0), (nodesT f l w).2.2)
  | f, l, true => rfl
  | 0, l, false => rfl
  | f + 1, l, false => by
    rw [nodesT_false, nodesT_false]
    have sg := fun c => sign_a0 c l
    rcases sign_cases l with q | ⟨q1, q2⟩ | ⟨q1, q2, q3⟩ | ⟨q1, q2, q3, q4⟩ | ⟨q1, q2, q3, q4⟩
    · rw [nodesR_block q, nodesR_block (by rw [sg]; exact q), ← List.map_tail, attrs_a0 _ _ _ _ _ (Nat.le_refl _)]
      simp only
      rw [nodes_a0 f]
      simp only
      rw [take_a0]
      simp only
      rw [nodes_a0 f]
    · rw [nodesR_text q1 q2, nodesR_text (by rw [sg]; exact q1) (by rw [sg]; exact q2), text_a0]
      simp only
      rw [nodes_a0 f]
    · rw [nodesR_box q1 q2 q3, nodesR_box (by rw [sg]; exact q1) (by rw [sg]; exact q2) (by rw [sg]; exact q3), ← List.map_tail, box_a0]
      simp only
      rw [nodes_a0 f]
    · rw [nodesR_float q1 q2 q3 q4, nodesR_float (by rw [sg]; exact q1) (by rw [sg]; exact q2) (by rw [sg]; exact q3) (by rw [sg]; exact q4), float_a0]
      simp only
      rw [nodes_a0 f]
    · rw [nodesR_none q1 q2 q3 q4, nodesR_none (by rw [sg]; exact q1) (by rw [sg]; exact q2) (by rw [sg]; exact q3) (by rw [sg]; exact q4)]
end
abbrev sg (c : Int) : Tk := ⟨1, c, 0, 0⟩
abbrev nm (n : Int) : Tk := ⟨2, 0, n, 0⟩
def LexTo (T : List UInt8) (i : Nat) (ts : List Tk) (j : Nat) : Prop := ∃ l, l.map Tk.at0 = ts ∧ ofI T false i = (ofI T false j).app l
theorem LexTo.refl (T : List UInt8) (i : Nat) : LexTo T i [] i := ⟨[], rfl, (Res.app_nil _).symm⟩
theorem Res.app_app (a b : List Tk) (r : Res) : (r.app b).app a = r.app (a ++ b) := by cases r <;> simp [Res.app]
theorem LexTo.trans {T : List UInt8} {i j k : Nat} {a b : List Tk} (h1 : LexTo T i a j) (h2 : LexTo T j b k) : LexTo T i (a ++ b) k := by
  obtain ⟨l, rfl, e1⟩ := h1
  obtain ⟨m, rfl, e2⟩ := h2
  exact ⟨l ++ m, by simp, by rw [e1, e2, Res.app_app]⟩
theorem at_drop {T w r : List UInt8} {i : Nat} {b : UInt8} (h : T.drop i = b :: w ++ r) : i < T.length ∧ byt T i = b.toNat ∧ T.drop (i + 1) = w ++ r := by
  have hi : i < T.length := by
    apply Classical.byContradiction
    intro hn
    rw [List.drop_eq_nil_of_le (by omega)] at h
    cases h
  rw [List.drop_eq_getElem_cons hi] at h
  simp only [List.cons_append,List.cons.injEq] at h
  exact ⟨hi, by rw [← byt_get hi, h.1], h.2⟩
theorem res_cons (t : Tk) (r : Res) : r.cons t = r.app [t] := by cases r <;> rfl
theorem lex_sign {T r : List UInt8} {i : Nat} {b : UInt8} (h : T.drop i = b :: r) (h1 : b.toNat ≤ 127) (h2 : ¬ (b.toNat = 32 ∨ b.toNat = 9 ∨ b.toNat = 10 ∨ b.toNat = 35 ∨ (48 ≤ b.toNat ∧ b.toNat ≤ 57))) :
    LexTo T i [sg (b.toNat : Int)] (i + 1) ∧ T.drop (i + 1) = r := by
  obtain ⟨hi, hb, hd⟩ := at_drop (w := []) (r := r) h
  have hs := sizeR_ascii (s := T) (i := i) (by omega)
  refine ⟨⟨[⟨1, runeR T i (sizeR T i), 0, i⟩], ?_, ?_⟩, hd⟩
  · rw [rune_ascii (by omega), hb]; rfl
  · rw [ofI_sign hi (by omega) (by omega), hs, res_cons]
theorem lex_white {T r : List UInt8} {i : Nat} {b : UInt8} (h : T.drop i = b :: r) (h1 : b = 32 ∨ b = 10) : LexTo T i [] (i + 1) ∧ T.drop (i + 1) = r := by
  obtain ⟨hi, hb, hd⟩ := at_drop (w := []) (r := r) h
  have hbv : b.toNat = 32 ∨ b.toNat = 10 := by rcases h1 with rfl | rfl <;> decide
  have hs := sizeR_ascii (s := T) (i := i) (by omega)
  refine ⟨⟨[], rfl, ?_⟩, hd⟩
  rw [ofI_white hi (by omega) (by omega), Res.app_nil]
def nd (r : List UInt8) : Prop := ∀ b, r.head? = some b → ¬ (48 ≤ b.toNat ∧ b.toNat ≤ 57)
theorem digLen_app : ∀ (d r : List UInt8), (∀ b ∈ d, 48 ≤ b.toNat ∧ b.toNat ≤ 57) → nd r → digLen (d ++ r) = d.length
  | [], [], _, _ => rfl
  | [], b :: r, _, h => by
    have := h b rfl
    simp only [List.nil_append,digLen]
    rw [if_neg this]; rfl
  | b :: d, r, hd, h => by
    simp only [List.cons_append,digLen]
    rw [if_pos (hd b (by simp)), digLen_app d r (fun c hc => hd c (by simp [hc])) h]; rfl
theorem lex_num {T r : List UInt8} {i : Nat} {n : Int} (h : T.drop i = dg n ++ r) (hn : inN n) (hr : nd r) : LexTo T i [nm n] (i + (dg n).length) ∧ T.drop (i + (dg n).length) = r := by
  have hmem := dec_mem n.toNat
  have hdl : digLen (T.drop i) = (dg n).length := by rw [h]; exact digLen_app _ _ hmem hr
  have hda : digsAt T i = dg n := by unfold digsAt; rw [hdl, h, List.take_left]
  obtain ⟨b, w, hw⟩ : ∃ b w, dg n = b :: w := by
    cases hd : dg n with
    | nil => exact absurd hd (dec_ne _)
    | cons b w => exact ⟨b, w, rfl⟩
  rw [hw] at h
  obtain ⟨hi, hb, _⟩ := at_drop h
  have hb0 := hmem b (by show b ∈ dg n; rw [hw]; simp)
  have hs := sizeR_ascii (s := T) (i := i) (by omega)
  have hbad : numBad (dg n) = false := by
    unfold numBad
    rw [show numR (dg n) = n.toNat from num_dec _]
    simp only [Bool.or_eq_false_iff,Bool.and_eq_false_iff,decide_eq_false_iff_not]
    unfold inN at hn
    refine ⟨by omega, ?_⟩
    by_cases hh : (dg n).head? = some 48
    · right; have := dec_head hh; unfold dg; omega
    · left; exact hh
  refine ⟨⟨[⟨2, 0, numR (digsAt T i), i⟩], ?_, ?_⟩, ?_⟩
  · rw [hda, show numR (dg n) = n.toNat from num_dec _]
    unfold inN at hn
    simp only [List.map_cons,List.map_nil,Tk.at0,nm]
    rw [show ((n.toNat : Nat) : Int) = n by omega]
  · rw [ofI_num hi (by omega) (by omega), hda, hbad, hdl, res_cons]; rfl
  · rw [← List.drop_drop, h, ← hw, List.drop_left]
end Go.Vc
namespace Go.Vc
def attX (s : List Int) : Nat → Nat → List UInt8
  | 0, _ => []
  | m + 1, j => (if s.getD j 0 = plainS.getD j 0 then [] else lettersB.getD j 0 :: dg (s.getD j 0)) ++ attX s m (j + 1)
def joinX : List Int → List UInt8
  | [] => []
  | [n] => dg n
  | n :: m :: l => dg n ++ 32 :: joinX (m :: l)
mutual
/-- a shape's text; shapes' texts, behind each so-and-so -/
def txtS : Shp → List UInt8
  | .box w h => 123 :: (joinX [w, h] ++ [125])
  | .block s inner => 91 :: (attX s 12 0 ++ (txtL [] inner ++ [93]))
  | .text ns => 40 :: (joinX ns ++ [41])
  | .float w h d => 60 :: (if d = 2 then 82 else 76) :: (joinX [w, h] ++ [62])
def txtL (e : List UInt8) : List Shp → List UInt8
  | [] => []
  | x :: l => txtS x ++ (e ++ txtL e l)
end
mutual
/-- numbers such as a reader takes -/
def okS : Shp → Prop
  | .box w h => (1 ≤ w ∧ w ≤ MX) ∧ (1 ≤ h ∧ h ≤ MX)
  | .block s inner => (s.length = 12 ∧ okL s) ∧ okSs inner
  | .text ns => ∃ a b c r, ns = a :: b :: c :: r ∧ (1 ≤ a ∧ a ≤ MX) ∧ (0 ≤ b ∧ b ≤ MX) ∧ (1 ≤ c ∧ c ≤ MX) ∧ ∀ n ∈ r, 1 ≤ n ∧ n ≤ MX
  | .float w h d => (1 ≤ w ∧ w ≤ MX) ∧ (1 ≤ h ∧ h ≤ MX) ∧ (d = 1 ∨ d = 2)
def okSs : List Shp → Prop
  | [] => True
  | x :: l => okS x ∧ okSs l
end
def attF (s : List Int) : Nat → Nat → List Tk
  | 0, _ => []
  | m + 1, j => (if s.getD j 0 = plainS.getD j 0 then [] else [sg (lettersB.getD j 0).toNat, nm (s.getD j 0)]) ++ attF s m (j + 1)
mutual
def tokS : Shp → List Tk
  | .box w h => [sg 123, nm w, nm h, sg 125]
  | .block s inner => sg 91 :: (attF s 12 0 ++ (tokL inner ++ [sg 93]))
  | .text ns => sg 40 :: (ns.map nm ++ [sg 41])
  | .float w h d => [sg 60, sg (if d = 2 then 82 else 76), nm w, nm h, sg 62]
def tokL : List Shp → List Tk
  | [] => []
  | x :: l => tokS x ++ tokL l
end
theorem inN_of {n : Int} (h : 1 ≤ n ∧ n ≤ MX) : inN n := by have hMX : MX = 1099511627776 := rfl; unfold inN; omega
theorem inN_of0 {n : Int} (h : 0 ≤ n ∧ n ≤ MX) : inN n := by have hMX : MX = 1099511627776 := rfl; unfold inN; omega
theorem okL_in {s : List Int} (h : okL s) (j : Nat) : inN (s.getD j 0) := by
  rw [List.getD_eq_getElem?_getD]
  cases hj : s[j]? with
  | none => simp [inN]
  | some v =>
    have := h j v hj
    have h1 : 0 ≤ loK j := by unfold loK; split <;> omega
    have h2 : hiK j ≤ MX := by unfold hiK; (repeat' split) <;> decide
    exact inN_of0 (by simp only [Option.getD_some]; omega)
theorem nd_cons {b : UInt8} {r : List UInt8} (h : ¬ (48 ≤ b.toNat ∧ b.toNat ≤ 57)) : nd (b :: r) := fun c hc => by
  simp only [List.head?_cons,Option.some.injEq] at hc
  subst hc; exact h
theorem letter_sign {j : Nat} (hj : j < 12) : (lettersB.getD j 0).toNat ≤ 127 ∧ ¬ ((lettersB.getD j 0).toNat = 32 ∨ (lettersB.getD j 0).toNat = 9 ∨ (lettersB.getD j 0).toNat = 10 ∨ (lettersB.getD j 0).toNat = 35 ∨ (48 ≤ (lettersB.getD j 0).toNat ∧ (lettersB.getD j 0).toNat ≤ 57)) := by
  match j, hj with
  | 0, _ | 1, _ | 2, _ | 3, _ | 4, _ | 5, _ | 6, _ | 7, _ | 8, _ | 9, _ | 10, _ | 11, _ => decide
theorem nd_att {s : List Int} {r : List UInt8} (hr : nd r) : ∀ (m j : Nat), j + m = 12 → nd (attX s m j ++ r)
  | 0, _, _ => hr
  | m + 1, j, hj => by
    rw [attX]
    split
    · exact nd_att hr m (j + 1) (by omega)
    · have := (letter_sign (j := j) (by omega)).2
      exact nd_cons (by omega)
theorem lex_att {T : List UInt8} {s : List Int} (hs : okL s) {r : List UInt8} (hr : nd r) : ∀ (m j i : Nat), j + m = 12 → T.drop i = attX s m j ++ r →
    LexTo T i (attF s m j) (i + (attX s m j).length) ∧ T.drop (i + (attX s m j).length) = r
  | 0, _, i, _, h => ⟨LexTo.refl T i, h⟩
  | m + 1, j, i, hj, h => by
    rw [attX, attF] at *
    by_cases hp : s.getD j 0 = plainS.getD j 0
    · rw [if_pos hp] at h ⊢
      rw [if_pos hp]
      exact lex_att hs hr m (j + 1) i (by omega) h
    · rw [if_neg hp] at h ⊢
      rw [if_neg hp]
      obtain ⟨l1, l2⟩ := letter_sign (j := j) (by omega)
      simp only [List.cons_append,List.append_assoc] at h
      obtain ⟨a1, a2⟩ := lex_sign h l1 l2
      obtain ⟨b1, b2⟩ := lex_num a2 (okL_in hs j) (nd_att hr m (j + 1) (by omega))
      obtain ⟨c1, c2⟩ := lex_att hs hr m (j + 1) _ (by omega) b2
      have e : i + 1 + (dg (s.getD j 0)).length + (attX s m (j + 1)).length = i + ((lettersB.getD j 0 :: dg (s.getD j 0)) ++ attX s m (j + 1)).length := by
        simp only [List.length_append,List.length_cons]; omega
      rw [e] at c1 c2
      exact ⟨(a1.trans b1).trans c1, c2⟩
theorem lex_join {T r : List UInt8} (hr : nd r) : ∀ (ns : List Int) (i : Nat), (∀ n ∈ ns, inN n) → T.drop i = joinX ns ++ r → LexTo T i (ns.map nm) (i + (joinX ns).length) ∧ T.drop (i + (joinX ns).length) = r
  | [], i, _, h => ⟨LexTo.refl T i, h⟩
  | [n], i, hn, h => by
    rw [joinX] at *
    exact lex_num h (hn n (by simp)) hr
  | n :: m :: l, i, hn, h => by
    rw [joinX] at *
    simp only [List.append_assoc,List.cons_append] at h
    obtain ⟨b1, b2⟩ := lex_num h (hn n (by simp)) (nd_cons (by decide))
    obtain ⟨w1, w2⟩ := lex_white b2 (.inl rfl)
    obtain ⟨c1, c2⟩ := lex_join hr (m :: l) _ (fun k hk => hn k (by simp at hk ⊢; exact .inr hk)) w2
    have e : i + (dg n).length + 1 + (joinX (m :: l)).length = i + (dg n ++ 32 :: joinX (m :: l)).length := by
      simp only [List.length_append,List.length_cons]; omega
    rw [e] at c1 c2
    exact ⟨(b1.trans w1).trans c1, c2⟩
theorem sgn {T r : List UInt8} {i : Nat} {b : UInt8} (h : T.drop i = b :: r) (hb : b = 123 ∨ b = 125 ∨ b = 91 ∨ b = 93 ∨ b = 40 ∨ b = 41 ∨ b = 60 ∨ b = 62 ∨ b = 76 ∨ b = 82) : LexTo T i [sg (b.toNat : Int)] (i + 1) ∧ T.drop (i + 1) = r := by
  rcases hb with rfl | rfl | rfl | rfl | rfl | rfl | rfl | rfl | rfl | rfl <;> exact lex_sign h (by decide) (by decide)
theorem txtS_head (x : Shp) : ∃ b r, txtS x = b :: r ∧ (b = 123 ∨ b = 91 ∨ b = 40 ∨ b = 60) := by
  cases x with
  | box w h => exact ⟨_, _, by rw [txtS], .inl rfl⟩
  | block s i => exact ⟨_, _, by rw [txtS], .inr (.inl rfl)⟩
  | text ns => exact ⟨_, _, by rw [txtS], .inr (.inr (.inl rfl))⟩
  | float w h d => exact ⟨_, _, by rw [txtS], .inr (.inr (.inr rfl))⟩
theorem nd_txtL {r : List UInt8} (hr : nd r) (xs : List Shp) (e : List UInt8) : nd (txtL e xs ++ r) := by
  cases xs with
  | nil => rw [txtL]; exact hr
  | cons x l =>
    obtain ⟨b, t, h1, h2⟩ := txtS_head x
    rw [txtL, h1]
    refine nd_cons ?_
    rcases h2 with rfl | rfl | rfl | rfl <;> decide
mutual
theorem lex_S {T : List UInt8} : ∀ (x : Shp) (r : List UInt8) (i : Nat), okS x → T.drop i = txtS x ++ r → LexTo T i (tokS x) (i + (txtS x).length) ∧ T.drop (i + (txtS x).length) = r
  | .box w h, r, i, ho, hd => by
    rw [okS] at ho
    rw [txtS] at hd ⊢
    rw [tokS]
    simp only [List.cons_append,List.append_assoc] at hd
    obtain ⟨a1, a2⟩ := sgn hd (by simp)
    obtain ⟨b1, b2⟩ := lex_join (nd_cons (by decide)) [w, h] _ (by simp; exact ⟨inN_of ho.1, inN_of ho.2⟩) a2
    obtain ⟨c1, c2⟩ := sgn b2 (by simp)
    have e : i + 1 + (joinX [w, h]).length + 1 = i + (123 :: (joinX [w, h] ++ [125])).length := by simp only [List.length_append,List.length_cons,List.length_nil]; omega
    rw [e] at c1 c2
    exact ⟨(a1.trans b1).trans c1, c2⟩
  | .float w h d, r, i, ho, hd => by
    rw [okS] at ho
    rw [txtS] at hd ⊢
    rw [tokS]
    simp only [List.cons_append,List.append_assoc] at hd
    obtain ⟨a1, a2⟩ := sgn hd (by simp)
    obtain ⟨a3, a4⟩ := sgn a2 (by split <;> simp)
    obtain ⟨b1, b2⟩ := lex_join (nd_cons (by decide)) [w, h] _ (by simp; exact ⟨inN_of ho.1, inN_of ho.2.1⟩) a4
    obtain ⟨c1, c2⟩ := sgn b2 (by simp)
    have e : i + 1 + 1 + (joinX [w, h]).length + 1 = i + (60 :: (if d = 2 then 82 else 76) :: (joinX [w, h] ++ [62]) : List UInt8).length := by simp only [List.length_append,List.length_cons,List.length_nil]; omega
    rw [e] at c1 c2
    have hs : sg (((if d = 2 then 82 else 76 : UInt8)).toNat : Int) = sg (if d = 2 then 82 else 76) := by split <;> rfl
    rw [hs] at a3
    exact ⟨((a1.trans a3).trans b1).trans c1, c2⟩
  | .text ns, r, i, ho, hd => by
    rw [okS] at ho
    rw [txtS] at hd ⊢
    rw [tokS]
    simp only [List.cons_append,List.append_assoc] at hd
    obtain ⟨a1, a2⟩ := sgn hd (by simp)
    have hall : ∀ n ∈ ns, inN n := by
      obtain ⟨a, b, c, q, rfl, h1, h2, h3, h4⟩ := ho
      intro n hn
      simp only [List.mem_cons] at hn
      rcases hn with rfl | rfl | rfl | hn
      · exact inN_of h1
      · exact inN_of0 h2
      · exact inN_of h3
      · exact inN_of (h4 n hn)
    obtain ⟨b1, b2⟩ := lex_join (nd_cons (by decide)) ns _ hall a2
    obtain ⟨c1, c2⟩ := sgn b2 (by simp)
    have e : i + 1 + (joinX ns).length + 1 = i + (40 :: (joinX ns ++ [41])).length := by simp only [List.length_append,List.length_cons,List.length_nil]; omega
    rw [e] at c1 c2
    exact ⟨(a1.trans b1).trans c1, c2⟩
  | .block s inner, r, i, ho, hd => by
    rw [okS] at ho
    rw [txtS] at hd ⊢
    rw [tokS]
    simp only [List.cons_append,List.append_assoc] at hd
    obtain ⟨a1, a2⟩ := sgn hd (by simp)
    obtain ⟨b1, b2⟩ := lex_att ho.1.2 (r := txtL [] inner ++ (93 :: r)) (nd_txtL (nd_cons (by decide)) inner []) 12 0 _ (by omega) a2
    obtain ⟨c1, c2⟩ := lex_L [] (.inl rfl) inner _ _ ho.2 b2
    obtain ⟨d1, d2⟩ := sgn c2 (by simp)
    have e : i + 1 + (attX s 12 0).length + (txtL [] inner).length + 1 = i + (91 :: (attX s 12 0 ++ (txtL [] inner ++ [93]))).length := by simp only [List.length_append,List.length_cons,List.length_nil]; omega
    rw [e] at d1 d2
    exact ⟨by have := ((a1.trans b1).trans c1).trans d1; simpa [List.append_assoc] using this, d2⟩
theorem lex_L {T : List UInt8} (e : List UInt8) (he : e = [] ∨ e = [10]) : ∀ (xs : List Shp) (r : List UInt8) (i : Nat), okSs xs → T.drop i = txtL e xs ++ r → LexTo T i (tokL xs) (i + (txtL e xs).length) ∧ T.drop (i + (txtL e xs).length) = r
  | [], r, i, _, h => by rw [txtL] at h ⊢; rw [tokL]; exact ⟨LexTo.refl T i, h⟩
  | x :: l, r, i, ho, h => by
    rw [okSs] at ho
    rw [txtL] at h ⊢
    rw [tokL]
    simp only [List.append_assoc] at h
    obtain ⟨a1, a2⟩ := lex_S x _ i ho.1 h
    have w : LexTo T (i + (txtS x).length) [] (i + (txtS x).length + e.length) ∧ T.drop (i + (txtS x).length + e.length) = txtL e l ++ r := by
      rcases he with rfl | rfl
      · exact ⟨LexTo.refl _ _, a2⟩
      · exact lex_white a2 (.inr rfl)
    obtain ⟨c1, c2⟩ := lex_L e he l r _ ho.2 w.2
    have q : i + (txtS x).length + e.length + (txtL e l).length = i + (txtS x ++ (e ++ txtL e l)).length := by simp only [List.length_append]; omega
    rw [q] at c1 c2
    exact ⟨by have := (a1.trans w.1).trans c1; simpa using this, c2⟩
end
theorem lex_txt {xs : List Shp} (h : okSs xs) : ∃ l, ofI (txtL [10] xs) false 0 = .ok l ∧ l.map Tk.at0 = tokL xs := by
  obtain ⟨⟨l, h1, h2⟩, _⟩ := lex_L (T := txtL [10] xs) [10] (.inr rfl) xs [] 0 h (by simp)
  have e : ofI (txtL [10] xs) false (0 + (txtL [10] xs).length) = .ok [] := ofI_end (by omega)
  rw [e] at h2
  exact ⟨l, by rw [h2]; simp [Res.app], h1⟩
end Go.Vc
namespace Go.Vc
theorem letter_spec {j : Nat} (hj : j < 12) : ∃ a b, spec ((lettersB.getD j 0).toNat : Int) = some (j, a, b) ∧ (∀ v, loK j ≤ v → v ≤ hiK j → v ≠ plainS.getD j 0 → a ≤ v ∧ v ≤ b) := by
  have hMX : MX = 1099511627776 := rfl
  match j, hj with
  | 0, _ => exact ⟨0, MX, rfl, fun v h1 h2 h3 => by simp [loK, hiK, plainS] at h1 h2 h3 ⊢; omega⟩
  | 1, _ => exact ⟨0, MX, rfl, fun v h1 h2 h3 => by simp [loK, hiK, plainS] at h1 h2 h3 ⊢; omega⟩
  | 2, _ => exact ⟨0, MX, rfl, fun v h1 h2 h3 => by simp [loK, hiK, plainS] at h1 h2 h3 ⊢; omega⟩
  | 3, _ => exact ⟨0, MX, rfl, fun v h1 h2 h3 => by simp [loK, hiK, plainS] at h1 h2 h3 ⊢; omega⟩
  | 4, _ => exact ⟨0, MX, rfl, fun v h1 h2 h3 => by simp [loK, hiK, plainS] at h1 h2 h3 ⊢; omega⟩
  | 5, _ => exact ⟨1, MX, rfl, fun v h1 h2 h3 => by simp [loK, hiK, plainS] at h1 h2 h3 ⊢; omega⟩
  | 6, _ => exact ⟨1, MX, rfl, fun v h1 h2 h3 => by simp [loK, hiK, plainS] at h1 h2 h3 ⊢; omega⟩
  | 7, _ => exact ⟨1, MX, rfl, fun v h1 h2 h3 => by simp [loK, hiK, plainS] at h1 h2 h3 ⊢; omega⟩
  | 8, _ => exact ⟨0, 4, rfl, fun v h1 h2 h3 => by simp [loK, hiK, plainS] at h1 h2 h3 ⊢; omega⟩
  | 9, _ => exact ⟨0, 4, rfl, fun v h1 h2 h3 => by simp [loK, hiK, plainS] at h1 h2 h3 ⊢; omega⟩
  | 10, _ => exact ⟨0, 1, rfl, fun v h1 h2 h3 => by simp [loK, hiK, plainS] at h1 h2 h3 ⊢; omega⟩
  | 11, _ => exact ⟨0, 3, rfl, fun v h1 h2 h3 => by simp [loK, hiK, plainS] at h1 h2 h3 ⊢; omega⟩
theorem letter_inj {i j : Nat} (hi : i < 12) (hj : j < 12) (h : ((lettersB.getD i 0).toNat : Int) = ((lettersB.getD j 0).toNat : Int)) : i = j := by
  obtain ⟨a, b, h1, _⟩ := letter_spec hi
  obtain ⟨c, d, h2, _⟩ := letter_spec hj
  rw [h] at h1
  rw [h1] at h2
  simp only [Option.some.injEq,Prod.mk.injEq] at h2
  exact h2.1
def noAtt (r : List Tk) : Prop := ∀ t q, r = t :: q → t.kind = 1 ∧ spec t.sign = none
theorem attrs_no {av : Int → Bool} {s : List Int} {r : List Tk} (h : noAtt r) : attrsT av s r false = (s, r, false) := by
  cases r with
  | nil => rfl
  | cons t q =>
    obtain ⟨h1, h2⟩ := h t q rfl
    rw [attrsT, if_neg (by simp), attrsR, if_pos h1, h2]
    cases av t.sign <;> rfl
theorem count_nm {a b n : Int} {r : List Tk} (h : a ≤ n ∧ n ≤ b) : countR a b (nm n :: r) false = (n, r, false) := by
  have : numB a b (nm n :: r) = true := by simp only [numB,decide_true,Bool.true_and,Bool.and_eq_true,decide_eq_true_eq]; omega
  simp [countR, this]
theorem att_read {s : List Int} (hl : s.length = 12) (hs : okL s) {r : List Tk} (hr : noAtt r) : ∀ (m j : Nat) (s0 : List Int) (av : Int → Bool), j + m = 12 → s0.length = 12 →
    (∀ k, k < j → s0.getD k 0 = s.getD k 0) → (∀ k, j ≤ k → k < 12 → s0.getD k 0 = plainS.getD k 0) → (∀ k, j ≤ k → k < 12 → av ((lettersB.getD k 0).toNat : Int) = true) →
    attrsT av s0 (attF s m j ++ r) false = (s, r, false) := by
  intro m
  induction m with
  | zero =>
    intro j s0 av hj h0 hlo _ _
    rw [attF, List.nil_append, attrs_no hr]
    have : s0 = s := by
      apply List.ext_getElem (by omega)
      intro k h1 h2
      have := hlo k (by omega)
      simpa [List.getD_eq_getElem?_getD, h1, h2] using this
    rw [this]
  | succ m ih =>
    intro j s0 av hj h0 hlo hhi hav
    rw [attF]
    by_cases hp : s.getD j 0 = plainS.getD j 0
    · rw [if_pos hp, List.nil_append]
      refine ih (j + 1) s0 av (by omega) h0 (fun k hk => ?_) (fun k h1 h2 => hhi k (by omega) h2) (fun k h1 h2 => hav k (by omega) h2)
      by_cases hkj : k = j
      · subst hkj; rw [hhi k (Nat.le_refl _) (by omega), hp]
      · exact hlo k (by omega)
    · rw [if_neg hp]
      obtain ⟨a, b, h1, h2⟩ := letter_spec (j := j) (by omega)
      have hv : loK j ≤ s.getD j 0 ∧ s.getD j 0 ≤ hiK j := by
        have : s[j]? = some (s.getD j 0) := by
          rw [List.getD_eq_getElem?_getD, List.getElem?_eq_getElem (by omega)]; rfl
        exact hs j _ this
      have hab := h2 _ hv.1 hv.2 hp
      have hc := count_nm (r := attF s m (j + 1) ++ r) hab
      simp only [List.cons_append,List.nil_append]
      rw [attrsT, if_neg (by simp), attrsT_step (t := sg ((lettersB.getD j 0).toNat : Int)) rfl (hav j (Nat.le_refl _) (by omega)) h1, hc]
      refine ih (j + 1) _ _ (by omega) (by simpa using h0) (fun k hk => ?_) (fun k h3 h4 => ?_) (fun k h3 h4 => ?_)
      · by_cases hkj : k = j
        · subst hkj
          simp [List.getD_eq_getElem?_getD, h0, show k < 12 by omega]
        · have := hlo k (by omega)
          rw [← this]
          simp [List.getD_eq_getElem?_getD, List.getElem?_set, Ne.symm hkj]
      · have := hhi k (by omega) h4
        rw [← this]
        simp [List.getD_eq_getElem?_getD, List.getElem?_set, show ¬ j = k by omega]
      · simp only
        rw [if_neg (fun e => by have := letter_inj (by omega) (by omega) e; omega)]
        exact hav k (by omega) h4
theorem nums_read {r : List Tk} (hr : numB 1 MX r = false) : ∀ (ns : List Int), (∀ n ∈ ns, 1 ≤ n ∧ n ≤ MX) → numsR (ns.map nm ++ r) = (ns, r)
  | [], _ => numsR_no hr
  | n :: ns, h => by
    have hn := h n (by simp)
    rw [List.map_cons, List.cons_append, numsR, if_pos (by simp only [numB,decide_true,Bool.true_and,Bool.and_eq_true,decide_eq_true_eq]; omega), nums_read hr ns fun k hk => h k (by simp [hk])]
theorem take_sg {c : Int} {r : List Tk} : takeR c (sg c :: r) false = (r, false) := by simp [takeR, signB]
theorem box_read {e w h : Int} {r : List Tk} (hw : 1 ≤ w ∧ w ≤ MX) (hh : 1 ≤ h ∧ h ≤ MX) : boxR e (nm w :: nm h :: sg e :: r) false = (w, h, r, false) := by
  simp only [boxR,count_nm hw,count_nm hh,take_sg]
theorem text_read {a b c : Int} {ns : List Int} {r : List Tk} (h1 : 1 ≤ a ∧ a ≤ MX) (h2 : 0 ≤ b ∧ b ≤ MX) (h3 : 1 ≤ c ∧ c ≤ MX) (h4 : ∀ n ∈ ns, 1 ≤ n ∧ n ≤ MX) :
    textR (sg 40 :: ((a :: b :: c :: ns).map nm ++ sg 41 :: r)) = (a :: b :: c :: ns, r, false) := by
  unfold textR
  simp only [take_sg,List.map_cons,List.cons_append,count_nm h1,count_nm h2,count_nm h3]
  rw [nums_read (by simp [numB]) ns h4]
  simp only [take_sg,List.nil_append]
theorem float_read {w h d : Int} {r : List Tk} (hw : 1 ≤ w ∧ w ≤ MX) (hh : 1 ≤ h ∧ h ≤ MX) (hd : d = 1 ∨ d = 2) : floatR (sg 60 :: sg (if d = 2 then 82 else 76) :: nm w :: nm h :: sg 62 :: r) false = (.float w h d, r, false) := by
  rcases hd with rfl | rfl
  · simp [floatR, take_sg, signB, takeR, box_read hw hh]
  · simp [floatR, take_sg, signB, takeR, box_read hw hh]
theorem noAtt_tok (xs : List Shp) (r : List Tk) (hr : noAtt r) : noAtt (tokL xs ++ r) := by
  cases xs with
  | nil => rw [tokL]; exact hr
  | cons x l =>
    intro t q h
    cases x <;> (simp only [tokL,tokS,List.cons_append,List.cons.injEq] at h; obtain ⟨rfl, _⟩ := h; exact ⟨rfl, rfl⟩)
theorem read_tok : ∀ (m : Nat) (xs : List Shp) (r : List Tk) (F : Nat), (tokL xs).length ≤ m → okSs xs → (tokL xs ++ r).length ≤ F →
    nodesT F (tokL xs ++ r) false = (xs ++ (nodesT F r false).1, (nodesT F r false).2) := by
  intro m
  induction m using Nat.strongRecOn with
  | _ m ih =>
    intro xs r F hm ho hF
    cases xs with
    | nil => rfl
    | cons x l =>
      rw [okSs] at ho
      rw [tokL] at hm hF ⊢
      simp only [List.append_assoc,List.length_append] at hm hF ⊢
      have hx1 : 1 ≤ (tokS x).length := by cases x <;> simp [tokS]
      obtain ⟨F, rfl⟩ : ∃ g, F = g + 1 := ⟨F - 1, by omega⟩
      have hrest : nodesT F (tokL l ++ r) false = (l ++ (nodesT F r false).1, (nodesT F r false).2) := ih (tokL l).length (by omega) l r F (Nat.le_refl _) ho.2 (by simp; omega)
      have hfu : nodesT (F + 1) r false = nodesT F r false := nodes_fuel r.length r false _ _ (Nat.le_refl _) (by omega) (by omega)
      rw [hfu, nodesT_false]
      cases x with
      | box w h =>
        rw [okS] at ho
        rw [tokS]
        simp only [List.cons_append,List.nil_append]
        rw [nodesR_box rfl rfl rfl]
        simp only [List.tail_cons]
        rw [box_read ho.1.1 ho.1.2]
        simp only [hrest,List.cons_append]
      | float w h d =>
        rw [okS] at ho
        rw [tokS]
        simp only [List.cons_append,List.nil_append]
        rw [nodesR_float rfl rfl rfl rfl, float_read ho.1.1 ho.1.2.1 ho.1.2.2]
        simp only [hrest,List.cons_append]
      | text ns =>
        rw [okS] at ho
        obtain ⟨⟨a, b, c, q, rfl, h1, h2, h3, h4⟩, ho2⟩ := ho
        rw [tokS]
        simp only [List.cons_append,List.append_assoc,List.nil_append]
        rw [nodesR_text rfl rfl, text_read h1 h2 h3 h4]
        simp only [hrest,List.cons_append]
      | block s inner =>
        rw [okS] at ho
        obtain ⟨⟨⟨hl, hs⟩, hi⟩, ho2⟩ := ho
        rw [tokS] at hm hF ⊢
        simp only [List.length_cons,List.length_append,List.length_nil] at hm hF
        simp only [List.cons_append,List.append_assoc,List.nil_append]
        rw [nodesR_block rfl]
        simp only [List.tail_cons]
        have hno : noAtt (sg 93 :: (tokL l ++ r)) := fun t q h => by
          simp only [List.cons.injEq] at h
          obtain ⟨rfl, _⟩ := h
          exact ⟨rfl, rfl⟩
        have hatt := att_read hl hs (noAtt_tok inner _ hno) 12 0 plainS (fun _ => true) (by omega) rfl (fun k hk => by omega) (fun k _ _ => rfl) (fun _ _ _ => rfl)
        rw [hatt]
        simp only
        have hinn := ih (tokL inner).length (by omega) inner (sg 93 :: (tokL l ++ r)) F (Nat.le_refl _) hi (by simp; omega)
        have h93 : nodesT F (sg 93 :: (tokL l ++ r)) false = ([], sg 93 :: (tokL l ++ r), false) := by rw [nodesT_false, nodesR_none rfl rfl rfl rfl]
        rw [h93, List.append_nil] at hinn
        rw [hinn]
        simp only [take_sg,hrest,List.cons_append]
theorem read_txt {xs : List Shp} (h : okSs xs) : readR (txtL [10] xs) = (toldL xs, 0, 0) := by
  obtain ⟨l, h1, h2⟩ := lex_txt h
  have hr := read_tok (tokL xs).length xs [] (tokL xs).length (Nat.le_refl _) h (by simp)
  rw [List.append_nil, nodesT_false, nodesT_false, nodesR_none (l := []) rfl rfl rfl rfl, List.append_nil, ← h2] at hr
  have ha := nodes_a0 l.length l false
  rw [nodesT_false, nodesT_false] at ha
  rw [List.length_map, ha] at hr
  have e1 := (Prod.mk.inj hr).1
  have e2 := (Prod.mk.inj (Prod.mk.inj hr).2)
  have e3 : (nodesR l.length l).2.1 = [] := by simpa using e2.1
  unfold readR
  rw [h1]
  simp only [e3,e2.2,e1,Bool.false_eq_true,if_false]
end Go.Vc
namespace Go.Vc
def costN (x : Nd) : Nat := 400 + 14 * x.words.length
def costs : List Nd → Nat
  | [] => 0
  | x :: l => costN x + costs l
theorem costs_app (a b : List Nd) : costs (a ++ b) = costs a + costs b := by
  induction a with
  | nil => simp [costs]
  | cons x a ih => simp [costs, ih]; omega
theorem joinX_len {ns : List Int} (h : ∀ n ∈ ns, inN n) : (joinX ns).length ≤ 14 * ns.length := by
  induction ns with
  | nil => simp [joinX]
  | cons a ns ih =>
    have ha := (dg_len (h a (by simp))).1
    cases ns with
    | nil => simp [joinX]; omega
    | cons b ns =>
      have := ih (fun n hn => h n (by simp [hn]))
      simp only [joinX,List.length_append,List.length_cons] at this ⊢
      omega
theorem attX_len {s : List Int} (h : ∀ j, inN (s.getD j 0)) : ∀ (m j : Nat), (attX s m j).length ≤ 14 * m
  | 0, _ => by simp [attX]
  | m + 1, j => by
    have h1 := attX_len h m (j + 1)
    have h2 := (dg_len (h j)).1
    rw [attX]
    split <;> simp only [List.length_append,List.length_cons,List.length_nil] <;> omega
theorem okT_in {ns : List Int} (h : okS (.text ns)) : (∀ n ∈ ns, inN n) ∧ 2 ≤ ns.length := by
  obtain ⟨a, b, c, r, rfl, ha, hb, hc, hr⟩ := h
  refine ⟨fun n hn => ?_, by simp⟩
  simp only [List.mem_cons] at hn
  rcases hn with rfl | rfl | rfl | hn
  · exact inN_of ha
  · exact inN_of0 hb
  · exact inN_of hc
  · exact inN_of (hr _ hn)
mutual
theorem txtS_len : ∀ x : Shp, okS x → (txtS x).length + 1 ≤ costs (toldS x)
  | .box w h, hx => by
    have h1 := (dg_len (inN_of hx.1)).1
    have h2 := (dg_len (inN_of hx.2)).1
    simp [txtS, joinX, toldS, costs, costN]; omega
  | .float w h d, hx => by
    have h1 := (dg_len (inN_of hx.1)).1
    have h2 := (dg_len (inN_of hx.2.1)).1
    simp [txtS, joinX, toldS, costs, costN]; omega
  | .text ns, hx => by
    obtain ⟨h1, h2⟩ := okT_in hx
    have h3 := joinX_len h1
    simp [txtS, toldS, costs, costN, ndS]; omega
  | .block s inner, hx => by
    have h1 := txtL_len inner hx.2 [] (by simp)
    have h2 := attX_len (okL_in hx.1.2) 12 0
    simp [txtS, toldS, costs, costN, ndS]; omega
theorem txtL_len : ∀ xs : List Shp, okSs xs → ∀ e : List UInt8, e.length ≤ 1 → (txtL e xs).length ≤ costs (toldL xs)
  | [], _, _, _ => by simp [txtL]
  | x :: l, hx, e, he => by
    have h1 := txtS_len x hx.1
    have h2 := txtL_len l hx.2 e he
    simp only [txtL,toldL,costs_app,List.length_append]; omega
end
end Go.Vc
namespace Go.Vc
open Go.Proofs
section
variable {P : Program} {n : Nat} {st : St} {Q : St → Prop} {k : List It}
theorem Go.pcallG {i : VIns} {l : List VIns} {fx : VX} {xs : List VX} {f : FuncId} {caps : List V} {v : V} (hw : wantV st.s i.g = some true) (ho : i.op = .call fx xs)
    (hf : fx.ev st.s = .fn f caps) (hc : PFun P f (xs.map (·.ev st.s) ++ caps) v) (h : Go P n (.d l k) ⟨putO st.s i.dst v, st.σ⟩ Q) : Go P n (.d (i :: l) k) st Q := by
  refine T_true hw ?_
  rw [ho]
  exact ⟨f, caps, v, hf, fun σ1 _ => hc σ1, h⟩
end
theorem Contract.args {P : Program} {f : FuncId} {args args' : List V} {σ : Store} {Post : V → Store → Prop} (hw : WkL σ σ args args') (h : Contract P f args' σ Post) : Contract P f args σ Post :=
  ⟨h.1, fun μ w vals hs hr => h.2 μ w vals hs (WkL.all hs hw hr)⟩
end Go.Vc
namespace Go.Vc
open Go.Proofs
theorem btW : BT 87 := ⟨by kernel_rfl, by kernel_rfl⟩
theorem IsB.grow {T u8 : TypeId} {K σ σ' : Store} {id idn : Nat} {l : List UInt8} {o : Ob} (h : IsB T u8 K σ id l) (hs : SubStore σ σ') (hn : σ idn = none) (ho : σ' idn = some o) : IsB T u8 (upd K idn o) σ' id l := by
  obtain ⟨hK, hn0, a, buf, hid, ha, hout⟩ := h
  have hne : id ≠ idn := by rintro rfl; rw [hid] at hn; cases hn
  refine ⟨fun i x hx => ?_, by rw [upd_ne hne]; exact hn0, a, buf, hs _ _ hid, ha, ?_⟩
  · by_cases hi : i = idn
    · subst hi; rw [upd_same] at hx; rw [← hx]; exact ho
    · rw [upd_ne hi] at hx; exact hs _ _ (hK _ _ hx)
  · rcases hout with h1 | ⟨i, h1, h2, h3⟩
    · exact .inl h1
    · have hi1 : i ≠ id := by rintro rfl; simp [Vc.upd] at h3
      have hi2 : i ≠ idn := by rintro rfl; rw [h2] at hn; cases hn
      refine .inr ⟨i, h1, hs _ _ h2, ?_⟩
      rw [upd_ne hi1] at h3 ⊢
      rw [upd_ne hi2]; exact h3
theorem joinX_take (ns : List Int) : ∀ (i : Nat) (h : i < ns.length), joinX (ns.take (i + 1)) = joinX (ns.take i) ++ ((if 0 < i then [32] else []) ++ dg ns[i]) := by
  induction ns with
  | nil => intro i h; simp at h
  | cons a ns ih =>
    intro i h
    cases i with
    | zero => simp [joinX]
    | succ i =>
      have h' : i < ns.length := by simpa using h
      have := ih i h'
      cases ns with
      | nil => simp at h'
      | cons b ns =>
        rw [List.take_succ_cons, List.take_succ_cons, joinX]
        rw [List.take_succ_cons] at this
        rw [this]
        cases i with
        | zero => simp [joinX]
        | succ i => simp [joinX]
set_option maxRecDepth 100000 in
theorem numbers_c {K σ : Store} {id idn n : Nat} {l : List UInt8} (ns : List Int) (hns : ∀ n ∈ ns, inN n) (h : IsB 87 5 K σ id l) (hn : n = ns.length) (hK : K idn = some ⟨3, 1, ns.map vI⟩) (hl : l.length + 14 * ns.length ≤ 1000000000) :
    Contract Tryd.prog 85 [.ptr id 0 0, .own idn 0 n] σ fun r σ' => r = .tup [] ∧ IsB 87 5 K σ' id (l ++ joinX ns) := by
  subst hn
  refine Contract.of_runs Tryd.func85 e85 k85 (by simp [c85]) ?_
  refine Runs.mix 9 ?_
  (refine Runs.of_step Orc.nothing 300 ?_; simp -implicitDefEqProofs only [BB,seval,← decide_not,okind,vpre,vpure,intBin,intPre,strBin,strPre,popTo,argSlots,fldV,fldAV,subCells,idxVV,idxAAV,idxSV,sliceV,sliceSV,boundV,szIs,storeOp,storeS,setRowV,eff,extV,buildV,splice,eqSV,fitsL,eqCells,eqCell,minmaxV,capV,binBV,nilCheckV,bytesV,V.cells,V.stays,Orc.nothing,c85])
  refine Runs.loop (fun m st => ∃ i : Nat, i ≤ ns.length ∧ m = ns.length - i ∧ IsB 87 5 K st.σ id (l ++ joinX (ns.take i)) ∧ st.s 0 = .ptr id 0 0 ∧ st.s 6 = .own idn 0 ns.length ∧ st.s 7 = vI ns.length ∧ st.s 8 = vI i) ns.length ?_ ?_
  · exact ⟨0, by omega, by omega, by simpa [joinX] using h, rfl, rfl, rfl, rfl⟩
  · rintro m ⟨s, σ1⟩ ⟨i, hi, rfl, hB, h0, h6, h7, h8⟩
    simp only at h0 h6 h7 h8 hB
    refine Runs.mix 9 ?_
    have hidn := hB.sub _ _ hK
    by_cases hlt : i < ns.length
    · have hlt' : ((i : Int) < ((ns.length : Nat) : Int)) = True := by simp; omega
      have hin := hns _ (List.getElem_mem hlt)
      have hjl : (joinX (ns.take i)).length ≤ 14 * i := by
        have := joinX_len (ns := ns.take i) (fun n hn => hns n (List.mem_of_mem_take hn))
        rw [List.length_take, Nat.min_eq_left (by omega)] at this; exact this
      have hd := (dg_len hin).1
      have ht := joinX_take ns i hlt
      have hin' := hin
      unfold inN at hin'
      have hidx : idxAV σ1 1 (.own idn 0 ns.length) (vI i) = some (.ptr idn i 0) := by simp [idxAV, hidn, hlt]
      have hld : loadV σ1 false 1 (.ptr idn i 0) = some (vI ns[i]) := by simp [loadV, hidn, hlt, V.cells]
      have r1 : inR .i64 ((i : Int) + 1) := inR_i64 (by omega) (by omega)
      generalize ns[i] = v at *
      have hit : Lib.itoa v = dg v := dg_itoa (by omega)
      by_cases hi0 : 0 < i
      · have hg : ((0 : Int) < (i : Int)) = True := by simp; omega
        rw [if_pos hi0] at ht
        (refine Runs.of_step Orc.nothing 300 ?_; simp -implicitDefEqProofs only [BB,seval,← decide_not,okind,vpre,vpure,intBin,intPre,strBin,strPre,popTo,argSlots,fldV,fldAV,subCells,idxVV,idxAAV,idxSV,sliceV,sliceSV,boundV,szIs,storeOp,storeS,setRowV,eff,extV,buildV,splice,eqSV,fitsL,eqCells,eqCell,minmaxV,capV,binBV,nilCheckV,bytesV,V.cells,V.stays,Orc.nothing,h0,h6,h7,h8,hlt',hidx,hld,hg])
        refine Runs.call rfl rfl rfl (wbyte_c btW 32 32 rfl hB (by simp only [List.length_append]; omega)) ?_
        rintro r σ2 ⟨rfl, hB2⟩
        (refine Runs.of_step Orc.nothing 300 ?_; simp -implicitDefEqProofs only [BB,seval,← decide_not,okind,vpre,vpure,intBin,intPre,strBin,strPre,popTo,argSlots,fldV,fldAV,subCells,idxVV,idxAAV,idxSV,sliceV,sliceSV,boundV,szIs,storeOp,storeS,setRowV,eff,extV,buildV,splice,eqSV,fitsL,eqCells,eqCell,minmaxV,capV,binBV,nilCheckV,bytesV,V.cells,V.stays,Orc.nothing,h0,h6,h7,h8])
        refine Go.pcallG rfl rfl rfl (itoaN_c v (by omega) (by omega)) ?_
        (refine Go.of_step Orc.nothing 300 _ _ ?_; simp -implicitDefEqProofs only [BB,seval,← decide_not,okind,vpre,vpure,intBin,intPre,strBin,strPre,popTo,argSlots,fldV,fldAV,subCells,idxVV,idxAAV,idxSV,sliceV,sliceSV,boundV,szIs,storeOp,storeS,setRowV,eff,extV,buildV,splice,eqSV,fitsL,eqCells,eqCell,minmaxV,capV,binBV,nilCheckV,bytesV,V.cells,V.stays,Orc.nothing,h0,h6,h7,h8])
        refine Runs.call rfl rfl rfl (wstr_c btW (Lib.itoa v) hB2 (by rw [hit]; simp only [List.length_append,List.length_cons,List.length_nil]; omega)) ?_
        rintro r σ3 ⟨rfl, hB3⟩
        (refine Runs.of_step Orc.nothing 300 ?_; simp -implicitDefEqProofs only [BB,seval,← decide_not,okind,vpre,vpure,intBin,intPre,strBin,strPre,popTo,argSlots,fldV,fldAV,subCells,idxVV,idxAAV,idxSV,sliceV,sliceSV,boundV,szIs,storeOp,storeS,setRowV,eff,extV,buildV,splice,eqSV,fitsL,eqCells,eqCell,minmaxV,capV,binBV,nilCheckV,bytesV,V.cells,V.stays,Orc.nothing,h0,h6,h7,h8,r1])
        refine ⟨_, by omega, i + 1, by omega, rfl, ?_, by simp⟩
        rw [ht, ← hit]
        simpa using hB3
      · have hi00 : i = 0 := by omega
        have hg : ((0 : Int) < (i : Int)) = False := by simp; omega
        rw [if_neg hi0] at ht
        (refine Runs.of_step Orc.nothing 300 ?_; simp -implicitDefEqProofs only [BB,seval,← decide_not,okind,vpre,vpure,intBin,intPre,strBin,strPre,popTo,argSlots,fldV,fldAV,subCells,idxVV,idxAAV,idxSV,sliceV,sliceSV,boundV,szIs,storeOp,storeS,setRowV,eff,extV,buildV,splice,eqSV,fitsL,eqCells,eqCell,minmaxV,capV,binBV,nilCheckV,bytesV,V.cells,V.stays,Orc.nothing,h0,h6,h7,h8,hlt',hidx,hld,hg])
        refine Go.pcallG rfl rfl rfl (itoaN_c v (by omega) (by omega)) ?_
        (refine Go.of_step Orc.nothing 300 _ _ ?_; simp -implicitDefEqProofs only [BB,seval,← decide_not,okind,vpre,vpure,intBin,intPre,strBin,strPre,popTo,argSlots,fldV,fldAV,subCells,idxVV,idxAAV,idxSV,sliceV,sliceSV,boundV,szIs,storeOp,storeS,setRowV,eff,extV,buildV,splice,eqSV,fitsL,eqCells,eqCell,minmaxV,capV,binBV,nilCheckV,bytesV,V.cells,V.stays,Orc.nothing,h0,h6,h7,h8])
        refine Runs.call rfl rfl rfl (wstr_c btW (Lib.itoa v) hB (by rw [hit]; simp only [List.length_append]; omega)) ?_
        rintro r σ3 ⟨rfl, hB3⟩
        (refine Runs.of_step Orc.nothing 300 ?_; simp -implicitDefEqProofs only [BB,seval,← decide_not,okind,vpre,vpure,intBin,intPre,strBin,strPre,popTo,argSlots,fldV,fldAV,subCells,idxVV,idxAAV,idxSV,sliceV,sliceSV,boundV,szIs,storeOp,storeS,setRowV,eff,extV,buildV,splice,eqSV,fitsL,eqCells,eqCell,minmaxV,capV,binBV,nilCheckV,bytesV,V.cells,V.stays,Orc.nothing,h0,h6,h7,h8,r1])
        refine ⟨_, by omega, i + 1, by omega, rfl, ?_, by simp⟩
        rw [ht, ← hit]
        simpa using hB3
    · have hi' : i = ns.length := by omega
      subst hi'
      have hlt' : (((ns.length : Nat) : Int) < ((ns.length : Nat) : Int)) = False := by simp
      rw [List.take_length] at hB
      (refine Runs.of_step Orc.nothing 300 ?_; simp -implicitDefEqProofs only [BB,seval,← decide_not,okind,vpre,vpure,intBin,intPre,strBin,strPre,popTo,argSlots,fldV,fldAV,subCells,idxVV,idxAAV,idxSV,sliceV,sliceSV,boundV,szIs,storeOp,storeS,setRowV,eff,extV,buildV,splice,eqSV,fitsL,eqCells,eqCell,minmaxV,capV,binBV,nilCheckV,bytesV,V.cells,V.stays,Orc.nothing,h0,h6,h7,h8,hlt'])
      exact ⟨_, _, SubStore.refl _, Wk.refl (SubStore.refl _) _, rfl, hB⟩
end Go.Vc
namespace Go.Vc
open Go.Proofs
def attV (s : List Int) (j : Nat) : List V := [.int .u8 (lettersB.getD j 0).toNat, vI (s.getD j 0), vI (plainS.getD j 0)]
def tabV (s : List Int) : List V := attV s 0 ++ (attV s 1 ++ (attV s 2 ++ (attV s 3 ++ (attV s 4 ++ (attV s 5 ++ (attV s 6 ++ (attV s 7 ++ (attV s 8 ++ (attV s 9 ++ (attV s 10 ++ attV s 11))))))))))
set_option maxRecDepth 100000 in
set_option maxHeartbeats 1000000 in
theorem table_c (s : List Int) (h : s.length = 12) : PFun Tryd.prog 84 [.agg (s.map vI)] (.agg (tabV s)) := fun σ => by
  obtain ⟨a0, a1, a2, a3, a4, a5, a6, a7, a8, a9, a10, a11, rfl⟩ : ∃ a0 a1 a2 a3 a4 a5 a6 a7 a8 a9 a10 a11, s = [a0, a1, a2, a3, a4, a5, a6, a7, a8, a9, a10, a11] := by
    match s, h with
    | [a0, a1, a2, a3, a4, a5, a6, a7, a8, a9, a10, a11], _ => exact ⟨_, _, _, _, _, _, _, _, _, _, _, _, rfl⟩
  refine Contract.of_runs Tryd.func84 e84 k84 (by simp [c84]) ?_
  refine Runs.mix 9 ?_
  (refine Runs.of_step Orc.nothing 300 ?_; simp -implicitDefEqProofs only [BB,seval,← decide_not,okind,vpre,vpure,intBin,intPre,strBin,strPre,popTo,argSlots,fldV,fldAV,subCells,idxVV,idxAAV,idxSV,sliceV,sliceSV,boundV,szIs,storeOp,storeS,setRowV,eff,extV,buildV,splice,eqSV,fitsL,eqCells,eqCell,minmaxV,capV,binBV,nilCheckV,bytesV,V.cells,V.stays,Orc.nothing,c84])
  refine effR_new fun id1 σ1 s1 r1 f1 => ?_
  simp -implicitDefEqProofs only [BB,seval,← decide_not,okind,vpre,vpure,intBin,intPre,strBin,strPre,popTo,argSlots,fldV,fldAV,subCells,idxVV,idxAAV,idxSV,sliceV,sliceSV,boundV,szIs,storeOp,storeS,setRowV,eff,extV,buildV,splice,eqSV,fitsL,eqCells,eqCell,minmaxV,capV,binBV,nilCheckV,bytesV,V.cells,V.stays,r1]
  refine effR_new fun id2 σ2 s2 r2 f2 => ?_
  have r1' := s2 _ _ r1
  have n12 : id1 ≠ id2 := ne_new r1 f2
  simp -implicitDefEqProofs only [BB,seval,← decide_not,okind,vpre,vpure,intBin,intPre,strBin,strPre,popTo,argSlots,fldV,fldAV,subCells,idxVV,idxAAV,idxSV,sliceV,sliceSV,boundV,szIs,storeOp,storeS,setRowV,eff,extV,buildV,splice,eqSV,fitsL,eqCells,eqCell,minmaxV,capV,binBV,nilCheckV,bytesV,V.cells,V.stays,r1',r2]
  refine Runs.pcall rfl rfl rfl (plain_c _) ?_
  (refine Runs.of_step Orc.nothing 300 ?_; simp -implicitDefEqProofs only [BB,seval,← decide_not,okind,vpre,vpure,intBin,intPre,strBin,strPre,popTo,argSlots,fldV,fldAV,subCells,idxVV,idxAAV,idxSV,sliceV,sliceSV,boundV,szIs,storeOp,storeS,setRowV,eff,extV,buildV,splice,eqSV,fitsL,eqCells,eqCell,minmaxV,capV,binBV,nilCheckV,bytesV,V.cells,V.stays,Orc.nothing,r1',r2])
  refine effR_new fun id3 σ3 s3 r3 f3 => ?_
  have r1'' := s3 _ _ r1'
  have r2' := s3 _ _ r2
  have n13 : id1 ≠ id3 := ne_new r1' f3
  have n23 : id2 ≠ id3 := ne_new r2 f3
  simp -implicitDefEqProofs only [BB,seval,← decide_not,okind,vpre,vpure,intBin,intPre,strBin,strPre,popTo,argSlots,fldV,fldAV,subCells,idxVV,idxAAV,idxSV,sliceV,sliceSV,boundV,szIs,storeOp,storeS,setRowV,eff,extV,buildV,splice,eqSV,fitsL,eqCells,eqCell,minmaxV,capV,binBV,nilCheckV,bytesV,V.cells,V.stays,r1'',r2',r3,upd_ne n13,upd_ne n23]
  exact .pure (((s1.trans (s2.trans s3)).updK ((s1.trans s2).none f3)).updK (s1.none f2)) rfl
theorem tab_idx (s : List Int) (j : Nat) (hj : j < 12) : idxVV true 12 3 (.agg (tabV s)) (vI j) = some (.agg (attV s j)) := by
  match j, hj with
  | 0, _ | 1, _ | 2, _ | 3, _ | 4, _ | 5, _ | 6, _ | 7, _ | 8, _ | 9, _ | 10, _ | 11, _ => rfl
set_option maxRecDepth 100000 in
theorem begin_c {K σ : Store} {id : Nat} {l : List UInt8} (s : List Int) (hs : s.length = 12) (hin : ∀ j, inN (s.getD j 0)) (h : IsB 87 5 K σ id l) (hl : l.length ≤ 900000000 - 1000) :
    Contract Tryd.prog 52 [.ptr id 0 0, .agg (s.map vI)] σ fun r σ' => r = .tup [] ∧ IsB 87 5 K σ' id (l ++ (91 :: attX s 12 0)) := by
  have hcl : (s.map vI).length = 12 := by simp [hs]
  have hst : (s.map vI).all V.stays = true := by simp [V.stays]
  refine Contract.of_runs Tryd.func52 e52 k52 (by simp [c52]) ?_
  refine Runs.mix 13 ?_
  (refine Runs.of_step Orc.nothing 300 ?_; simp -implicitDefEqProofs only [BB,seval,← decide_not,okind,vpre,vpure,intBin,intPre,strBin,strPre,popTo,argSlots,fldV,fldAV,subCells,idxVV,idxAAV,idxSV,sliceV,sliceSV,boundV,szIs,storeOp,storeS,setRowV,eff,extV,buildV,splice,eqSV,fitsL,eqCells,eqCell,minmaxV,capV,binBV,nilCheckV,bytesV,V.cells,V.stays,Orc.nothing,c52,hcl,hst])
  refine effR_new fun id1 σ1 s1 r1 f1 => ?_
  simp -implicitDefEqProofs only [BB,seval,← decide_not,okind,vpre,vpure,intBin,intPre,strBin,strPre,popTo,argSlots,fldV,fldAV,subCells,idxVV,idxAAV,idxSV,sliceV,sliceSV,boundV,szIs,storeOp,storeS,setRowV,eff,extV,buildV,splice,eqSV,fitsL,eqCells,eqCell,minmaxV,capV,binBV,nilCheckV,bytesV,V.cells,V.stays,r1,hcl]
  refine Runs.call rfl rfl rfl (wbyte_c btW 91 91 rfl (h.grow s1 f1 r1) (by omega)) ?_
  rintro r σ2 ⟨rfl, hB1⟩
  have hr2 := hB1.sub _ _ upd_same
  have hB2 := hB1.less ((SubStore.refl K).upd_new (h.sub.none f1))
  (refine Runs.of_step Orc.nothing 300 ?_; simp -implicitDefEqProofs only [BB,seval,← decide_not,okind,vpre,vpure,intBin,intPre,strBin,strPre,popTo,argSlots,fldV,fldAV,subCells,idxVV,idxAAV,idxSV,sliceV,sliceSV,boundV,szIs,storeOp,storeS,setRowV,eff,extV,buildV,splice,eqSV,fitsL,eqCells,eqCell,minmaxV,capV,binBV,nilCheckV,bytesV,V.cells,V.stays,Orc.nothing,hr2,hcl])
  refine Runs.pcall rfl rfl rfl (table_c s hs _) ?_
  (refine Runs.of_step Orc.nothing 300 ?_; simp -implicitDefEqProofs only [BB,seval,← decide_not,okind,vpre,vpure,intBin,intPre,strBin,strPre,popTo,argSlots,fldV,fldAV,subCells,idxVV,idxAAV,idxSV,sliceV,sliceSV,boundV,szIs,storeOp,storeS,setRowV,eff,extV,buildV,splice,eqSV,fitsL,eqCells,eqCell,minmaxV,capV,binBV,nilCheckV,bytesV,V.cells,V.stays,Orc.nothing])
  refine Runs.loop (fun m st => ∃ (j : Nat) (dn : List UInt8), j ≤ 12 ∧ m = 12 - j ∧ IsB 87 5 K st.σ id (l ++ (91 :: dn)) ∧ dn ++ attX s (12 - j) j = attX s 12 0 ∧ st.s 0 = .ptr id 0 0 ∧ st.s 11 = .agg (tabV s) ∧ st.s 12 = vI j) 12 ?_ ?_
  · exact ⟨0, [], by omega, by omega, by simpa using hB2, by simp, rfl, rfl, rfl⟩
  · rintro m ⟨S, σ3⟩ ⟨j, dn, hj, rfl, hB, hdn, h0, h11, h12⟩
    simp only at h0 h11 h12 hB
    refine Runs.mix 13 ?_
    have hlen := attX_len hin 12 0
    rw [← hdn, List.length_append] at hlen
    by_cases hlt : j < 12
    · have hlt' : ((j : Int) < 12) = True := by simp; omega
      have hix := tab_idx s j hlt
      have r2 : inR .i64 ((j : Int) + 1) := inR_i64 (by omega) (by omega)
      have hv := hin j
      rw [show 12 - j = (12 - (j + 1)) + 1 by omega, attX] at hdn
      unfold attV at hix
      generalize s.getD j 0 = a at *
      generalize plainS.getD j 0 = p at *
      generalize lettersB.getD j 0 = u at *
      (refine Runs.of_step Orc.nothing 300 ?_; simp -implicitDefEqProofs only [BB,seval,← decide_not,okind,vpre,vpure,intBin,intPre,strBin,strPre,popTo,argSlots,fldV,fldAV,subCells,idxAAV,idxSV,sliceV,sliceSV,boundV,szIs,storeOp,storeS,setRowV,eff,extV,buildV,splice,eqSV,fitsL,eqCells,eqCell,minmaxV,capV,binBV,nilCheckV,bytesV,V.cells,V.stays,Orc.nothing,h0,h11,h12,hlt',hix])
      refine effR_new fun id5 σ5 s5 r5 f5 => ?_
      by_cases hq : a = p
      · rw [if_pos hq] at hdn
        have hq' : (a ≠ p) = False := by simp [hq]
        simp -implicitDefEqProofs only [BB,seval,← decide_not,okind,vpre,vpure,intBin,intPre,strBin,strPre,popTo,argSlots,fldV,fldAV,subCells,idxVV,idxAAV,idxSV,sliceV,sliceSV,boundV,szIs,storeOp,storeS,setRowV,eff,extV,buildV,splice,eqSV,fitsL,eqCells,eqCell,minmaxV,capV,binBV,nilCheckV,bytesV,V.cells,V.stays,r5,h0,h11,h12,hq',r2]
        refine ⟨_, by omega, j + 1, dn, by omega, rfl, hB.mono (s5.updK f5), ?_, by simp⟩
        rw [← hdn]; simp
      · rw [if_neg hq] at hdn
        have hq' : (a ≠ p) = True := by simp [hq]
        simp -implicitDefEqProofs only [BB,seval,← decide_not,okind,vpre,vpure,intBin,intPre,strBin,strPre,popTo,argSlots,fldV,fldAV,subCells,idxVV,idxAAV,idxSV,sliceV,sliceSV,boundV,szIs,storeOp,storeS,setRowV,eff,extV,buildV,splice,eqSV,fitsL,eqCells,eqCell,minmaxV,capV,binBV,nilCheckV,bytesV,V.cells,V.stays,r5,h0,h11,h12,hq',r2]
        have hgl : (l ++ 91 :: dn).length ≤ 300000000 + 600000000 := by simp only [List.length_append,List.length_cons]; omega
        refine Runs.call rfl rfl rfl (wbyte_c btW u.toNat u rfl (hB.grow (s5.updK f5) f5 upd_same) (by omega)) ?_
        rintro r σ6 ⟨rfl, hB6⟩
        have hr6 := hB6.sub _ _ upd_same
        have hB6' := hB6.less ((SubStore.refl K).upd_new (hB.sub.none f5))
        (refine Runs.of_step Orc.nothing 300 ?_; simp -implicitDefEqProofs only [BB,seval,← decide_not,okind,vpre,vpure,intBin,intPre,strBin,strPre,popTo,argSlots,fldV,fldAV,subCells,idxVV,idxAAV,idxSV,sliceV,sliceSV,boundV,szIs,storeOp,storeS,setRowV,eff,extV,buildV,splice,eqSV,fitsL,eqCells,eqCell,minmaxV,capV,binBV,nilCheckV,bytesV,V.cells,V.stays,Orc.nothing,hr6,h0,h11,h12,r2])
        refine effR_new fun id7 σ7 s7 r7 f7 => ?_
        simp -implicitDefEqProofs only [BB,seval,← decide_not,okind,vpre,vpure,intBin,intPre,strBin,strPre,popTo,argSlots,fldV,fldAV,subCells,idxVV,idxAAV,idxSV,sliceV,sliceSV,boundV,szIs,storeOp,storeS,setRowV,eff,extV,buildV,splice,eqSV,fitsL,eqCells,eqCell,minmaxV,capV,binBV,nilCheckV,bytesV,V.cells,V.stays,r7,hr6,h0,h11,h12,r2]
        have hB7 := hB6'.grow s7 f7 r7
        refine Runs.call rfl rfl rfl (numbers_c [a] (by simpa using hv) hB7 rfl (by rw [upd_same]; rfl) (by simp only [List.length_append,List.length_cons,List.length_nil]; simp only [List.length_append,List.length_cons] at hgl; omega)) ?_
        rintro r σ8 ⟨rfl, hB8⟩
        have hB9 := hB8.less ((SubStore.refl K).upd_new (hB6'.sub.none f7))
        (refine Runs.of_step Orc.nothing 300 ?_; simp -implicitDefEqProofs only [BB,seval,← decide_not,okind,vpre,vpure,intBin,intPre,strBin,strPre,popTo,argSlots,fldV,fldAV,subCells,idxVV,idxAAV,idxSV,sliceV,sliceSV,boundV,szIs,storeOp,storeS,setRowV,eff,extV,buildV,splice,eqSV,fitsL,eqCells,eqCell,minmaxV,capV,binBV,nilCheckV,bytesV,V.cells,V.stays,Orc.nothing,h0,h11,h12,r2])
        refine ⟨_, by omega, j + 1, dn ++ (u :: dg a), by omega, rfl, ?_, ?_, by simp⟩
        · simpa [joinX] using hB9
        · rw [← hdn]; simp
    · have hj' : j = 12 := by omega
      subst hj'
      (refine Runs.of_step Orc.nothing 300 ?_; simp -implicitDefEqProofs only [BB,seval,← decide_not,okind,vpre,vpure,intBin,intPre,strBin,strPre,popTo,argSlots,fldV,fldAV,subCells,idxVV,idxAAV,idxSV,sliceV,sliceSV,boundV,szIs,storeOp,storeS,setRowV,eff,extV,buildV,splice,eqSV,fitsL,eqCells,eqCell,minmaxV,capV,binBV,nilCheckV,bytesV,V.cells,V.stays,Orc.nothing,h0,h11,h12])
      refine ⟨_, _, SubStore.refl _, Wk.refl (SubStore.refl _) _, rfl, ?_⟩
      rw [← hdn]; simpa [attX] using hB
end Go.Vc
namespace Go.Vc
open Go.Proofs
theorem nodeB_c {K σ : Store} {id : Nat} {l : List UInt8} (x : Nd) (hk : x.kind = 3) (hw : inN x.w) (hh : inN x.h) (h : IsB 87 5 K σ id l) (hl : l.length ≤ 900000000) :
    Contract Tryd.prog 54 [.ptr id 0 0, encN x] σ fun r σ' => r = .tup [] ∧ IsB 87 5 K σ' id (l ++ (123 :: (joinX [x.w, x.h] ++ [125]))) := by
  have hJ := joinX_len (ns := [x.w, x.h]) (by simp [hw, hh])
  refine Contract.of_runs Tryd.func54 e54 k54 (by simp [c54]) ?_
  refine Runs.mix 9 ?_
  (refine Runs.of_step Orc.nothing 300 ?_; simp -implicitDefEqProofs only [BB,seval,← decide_not,okind,vpre,vpure,intBin,intPre,strBin,strPre,popTo,argSlots,fldV,fldAV,subCells,idxVV,idxAAV,idxSV,sliceV,sliceSV,boundV,szIs,storeOp,storeS,setRowV,eff,extV,buildV,splice,eqSV,fitsL,eqCells,eqCell,minmaxV,capV,binBV,nilCheckV,bytesV,V.cells,V.stays,Orc.nothing,c54,encN,Nd.cells,encI])
  refine effR_new fun id1 σ1 s1 r1 f1 => ?_
  simp -implicitDefEqProofs only [BB,seval,← decide_not,okind,vpre,vpure,intBin,intPre,strBin,strPre,popTo,argSlots,fldV,fldAV,subCells,idxVV,idxAAV,idxSV,sliceV,sliceSV,boundV,szIs,storeOp,storeS,setRowV,eff,extV,buildV,splice,eqSV,fitsL,eqCells,eqCell,minmaxV,capV,binBV,nilCheckV,bytesV,V.cells,V.stays,r1,hk]
  refine Runs.call rfl rfl rfl (wbyte_c btW 123 123 rfl (h.grow s1 f1 r1) (by omega)) ?_
  rintro r σ2 ⟨rfl, hB1⟩
  have hr2 := hB1.sub _ _ upd_same
  have hB2 := hB1.less ((SubStore.refl K).upd_new (h.sub.none f1))
  (refine Runs.of_step Orc.nothing 300 ?_; simp -implicitDefEqProofs only [BB,seval,← decide_not,okind,vpre,vpure,intBin,intPre,strBin,strPre,popTo,argSlots,fldV,fldAV,subCells,idxVV,idxAAV,idxSV,sliceV,sliceSV,boundV,szIs,storeOp,storeS,setRowV,eff,extV,buildV,splice,eqSV,fitsL,eqCells,eqCell,minmaxV,capV,binBV,nilCheckV,bytesV,V.cells,V.stays,Orc.nothing,hr2])
  refine effR_new fun id3 σ3 s3 r3 f3 => ?_
  simp -implicitDefEqProofs only [BB,seval,← decide_not,okind,vpre,vpure,intBin,intPre,strBin,strPre,popTo,argSlots,fldV,fldAV,subCells,idxVV,idxAAV,idxSV,sliceV,sliceSV,boundV,szIs,storeOp,storeS,setRowV,eff,extV,buildV,splice,eqSV,fitsL,eqCells,eqCell,minmaxV,capV,binBV,nilCheckV,bytesV,V.cells,V.stays,r3,hr2]
  refine Runs.call rfl rfl rfl (numbers_c [x.w, x.h] (by simp [hw, hh]) (hB2.grow s3 f3 r3) rfl (by rw [upd_same]; rfl) (by simp only [List.length_append,List.length_cons,List.length_nil]; omega)) ?_
  rintro r σ4 ⟨rfl, hB4⟩
  have hB5 := hB4.less ((SubStore.refl K).upd_new (hB2.sub.none f3))
  (refine Runs.of_step Orc.nothing 300 ?_; simp -implicitDefEqProofs only [BB,seval,← decide_not,okind,vpre,vpure,intBin,intPre,strBin,strPre,popTo,argSlots,fldV,fldAV,subCells,idxVV,idxAAV,idxSV,sliceV,sliceSV,boundV,szIs,storeOp,storeS,setRowV,eff,extV,buildV,splice,eqSV,fitsL,eqCells,eqCell,minmaxV,capV,binBV,nilCheckV,bytesV,V.cells,V.stays,Orc.nothing])
  refine Runs.call rfl rfl rfl (wbyte_c btW 125 125 rfl hB5 (by simp only [List.length_append,List.length_cons,List.length_nil] at hJ ⊢; omega)) ?_
  rintro r σ6 ⟨rfl, hB6⟩
  (refine Runs.of_step Orc.nothing 300 ?_; simp -implicitDefEqProofs only [BB,seval,← decide_not,okind,vpre,vpure,intBin,intPre,strBin,strPre,popTo,argSlots,fldV,fldAV,subCells,idxVV,idxAAV,idxSV,sliceV,sliceSV,boundV,szIs,storeOp,storeS,setRowV,eff,extV,buildV,splice,eqSV,fitsL,eqCells,eqCell,minmaxV,capV,binBV,nilCheckV,bytesV,V.cells,V.stays,Orc.nothing])
  refine ⟨_, _, SubStore.refl _, Wk.refl (SubStore.refl _) _, rfl, ?_⟩
  simpa using hB6
theorem nodeF_c {K σ : Store} {id : Nat} {l : List UInt8} (x : Nd) (hk : x.kind = 4) (hs : x.side = 1 ∨ x.side = 2) (hw : inN x.w) (hh : inN x.h) (h : IsB 87 5 K σ id l) (hl : l.length ≤ 900000000) :
    Contract Tryd.prog 54 [.ptr id 0 0, encN x] σ fun r σ' => r = .tup [] ∧ IsB 87 5 K σ' id (l ++ (60 :: (if x.side = 2 then 82 else 76) :: (joinX [x.w, x.h] ++ [62]))) := by
  have hJ := joinX_len (ns := [x.w, x.h]) (by simp [hw, hh])
  refine Contract.of_runs Tryd.func54 e54 k54 (by simp [c54]) ?_
  refine Runs.mix 9 ?_
  rcases hs with hs | hs
  all_goals
    (refine Runs.of_step Orc.nothing 300 ?_; simp -implicitDefEqProofs only [BB,seval,← decide_not,okind,vpre,vpure,intBin,intPre,strBin,strPre,popTo,argSlots,fldV,fldAV,subCells,idxVV,idxAAV,idxSV,sliceV,sliceSV,boundV,szIs,storeOp,storeS,setRowV,eff,extV,buildV,splice,eqSV,fitsL,eqCells,eqCell,minmaxV,capV,binBV,nilCheckV,bytesV,V.cells,V.stays,Orc.nothing,c54,encN,Nd.cells,encI])
    refine effR_new fun id1 σ1 s1 r1 f1 => ?_
    simp -implicitDefEqProofs only [BB,seval,← decide_not,okind,vpre,vpure,intBin,intPre,strBin,strPre,popTo,argSlots,fldV,fldAV,subCells,idxVV,idxAAV,idxSV,sliceV,sliceSV,boundV,szIs,storeOp,storeS,setRowV,eff,extV,buildV,splice,eqSV,fitsL,eqCells,eqCell,minmaxV,capV,binBV,nilCheckV,bytesV,V.cells,V.stays,r1,hk,hs]
    refine Runs.call rfl rfl rfl (wstr_c btW _ (h.grow s1 f1 r1) (by simp only [List.length_append,List.length_cons,List.length_nil]; omega)) ?_
    rintro r σ2 ⟨rfl, hB1⟩
    have hr2 := hB1.sub _ _ upd_same
    have hB2 := hB1.less ((SubStore.refl K).upd_new (h.sub.none f1))
    (refine Runs.of_step Orc.nothing 300 ?_; simp -implicitDefEqProofs only [BB,seval,← decide_not,okind,vpre,vpure,intBin,intPre,strBin,strPre,popTo,argSlots,fldV,fldAV,subCells,idxVV,idxAAV,idxSV,sliceV,sliceSV,boundV,szIs,storeOp,storeS,setRowV,eff,extV,buildV,splice,eqSV,fitsL,eqCells,eqCell,minmaxV,capV,binBV,nilCheckV,bytesV,V.cells,V.stays,Orc.nothing,hr2])
    refine effR_new fun id3 σ3 s3 r3 f3 => ?_
    simp -implicitDefEqProofs only [BB,seval,← decide_not,okind,vpre,vpure,intBin,intPre,strBin,strPre,popTo,argSlots,fldV,fldAV,subCells,idxVV,idxAAV,idxSV,sliceV,sliceSV,boundV,szIs,storeOp,storeS,setRowV,eff,extV,buildV,splice,eqSV,fitsL,eqCells,eqCell,minmaxV,capV,binBV,nilCheckV,bytesV,V.cells,V.stays,r3,hr2]
    refine Runs.call rfl rfl rfl (numbers_c [x.w, x.h] (by simp [hw, hh]) (hB2.grow s3 f3 r3) rfl (by rw [upd_same]; rfl) (by simp only [List.length_append,List.length_cons,List.length_nil]; omega)) ?_
    rintro r σ4 ⟨rfl, hB4⟩
    have hB5 := hB4.less ((SubStore.refl K).upd_new (hB2.sub.none f3))
    (refine Runs.of_step Orc.nothing 300 ?_; simp -implicitDefEqProofs only [BB,seval,← decide_not,okind,vpre,vpure,intBin,intPre,strBin,strPre,popTo,argSlots,fldV,fldAV,subCells,idxVV,idxAAV,idxSV,sliceV,sliceSV,boundV,szIs,storeOp,storeS,setRowV,eff,extV,buildV,splice,eqSV,fitsL,eqCells,eqCell,minmaxV,capV,binBV,nilCheckV,bytesV,V.cells,V.stays,Orc.nothing])
    refine Runs.call rfl rfl rfl (wbyte_c btW 62 62 rfl hB5 (by simp only [List.length_append,List.length_cons,List.length_nil] at hJ ⊢; omega)) ?_
    rintro r σ6 ⟨rfl, hB6⟩
    (refine Runs.of_step Orc.nothing 300 ?_; simp -implicitDefEqProofs only [BB,seval,← decide_not,okind,vpre,vpure,intBin,intPre,strBin,strPre,popTo,argSlots,fldV,fldAV,subCells,idxVV,idxAAV,idxSV,sliceV,sliceSV,boundV,szIs,storeOp,storeS,setRowV,eff,extV,buildV,splice,eqSV,fitsL,eqCells,eqCell,minmaxV,capV,binBV,nilCheckV,bytesV,V.cells,V.stays,Orc.nothing])
    refine ⟨_, _, SubStore.refl _, Wk.refl (SubStore.refl _) _, rfl, ?_⟩
    simpa [hs] using hB6
theorem nodeT_c {K σ : Store} {id : Nat} {l : List UInt8} (x : Nd) (hk : x.kind = 2) (hn : ∀ n ∈ x.line :: x.space :: x.words, inN n) (hm : x.words.length ≤ 100000000) (h : IsB 87 5 K σ id l) (hl : l.length + 14 * x.words.length ≤ 900000000) :
    Contract Tryd.prog 54 [.ptr id 0 0, encN x] σ fun r σ' => r = .tup [] ∧ IsB 87 5 K σ' id (l ++ (40 :: (joinX (x.line :: x.space :: x.words) ++ [41]))) := by
  have hJ := joinX_len hn
  refine Contract.of_runs Tryd.func54 e54 k54 (by simp [c54]) ?_
  refine Runs.mix 9 ?_
  (refine Runs.of_step Orc.nothing 300 ?_; simp -implicitDefEqProofs only [BB,seval,← decide_not,okind,vpre,vpure,intBin,intPre,strBin,strPre,popTo,argSlots,fldV,fldAV,subCells,idxVV,idxAAV,idxSV,sliceV,sliceSV,boundV,szIs,storeOp,storeS,setRowV,eff,extV,buildV,splice,eqSV,fitsL,eqCells,eqCell,minmaxV,capV,binBV,nilCheckV,bytesV,V.cells,V.stays,Orc.nothing,c54,encN,Nd.cells,encI])
  refine effR_new fun id1 σ1 s1 r1 f1 => ?_
  simp -implicitDefEqProofs only [BB,seval,← decide_not,okind,vpre,vpure,intBin,intPre,strBin,strPre,popTo,argSlots,fldV,fldAV,subCells,idxVV,idxAAV,idxSV,sliceV,sliceSV,boundV,szIs,storeOp,storeS,setRowV,eff,extV,buildV,splice,eqSV,fitsL,eqCells,eqCell,minmaxV,capV,binBV,nilCheckV,bytesV,V.cells,V.stays,r1,hk]
  refine Runs.call rfl rfl rfl (wbyte_c btW 40 40 rfl (h.grow s1 f1 r1) (by omega)) ?_
  rintro r σ2 ⟨rfl, hB1⟩
  have hr2 := hB1.sub _ _ upd_same
  have hB2 := hB1.less ((SubStore.refl K).upd_new (h.sub.none f1))
  (refine Runs.of_step Orc.nothing 300 ?_; simp -implicitDefEqProofs only [BB,seval,← decide_not,okind,vpre,vpure,intBin,intPre,strBin,strPre,popTo,argSlots,fldV,fldAV,subCells,idxVV,idxAAV,idxSV,sliceV,sliceSV,boundV,szIs,storeOp,storeS,setRowV,eff,extV,buildV,splice,eqSV,fitsL,eqCells,eqCell,minmaxV,capV,binBV,nilCheckV,bytesV,V.cells,V.stays,Orc.nothing,hr2])
  refine effR_new fun id3 σ3 s3 r3 f3 => ?_
  have hr3 := s3 _ _ hr2
  have hO : OutV σ2 σ3 3 1 (.own id3 0 2) [vI x.line, vI x.space] := .inr ⟨id3, rfl, r3, f3⟩
  obtain ⟨idA, hda, hdel⟩ := hO.dst (SubStore.refl σ3)
  have hsr : srcRows σ3 1 (.sl 1 (x.words.map vI)) = some (x.words.map vI) := rfl
  have hb2 : (2 + x.words.length) * 9 ≤ 140737488355328 := by omega
  simp -implicitDefEqProofs only [BB,seval,← decide_not,okind,vpre,vpure,intBin,intPre,strBin,strPre,popTo,argSlots,fldV,fldAV,subCells,idxVV,idxAAV,idxSV,sliceV,sliceSV,boundV,szIs,storeOp,storeS,setRowV,eff,extV,buildV,splice,eqSV,fitsL,eqCells,eqCell,minmaxV,capV,binBV,nilCheckV,bytesV,V.cells,V.stays,r3,hr3,hda,hsr,List.length_map,hb2]
  refine effR_put fun id4 σ4 s4 r4 f4 => ?_
  have k4 := (hdel _ (SubStore.refl _) σ3 s3).trans s4
  have f4' := s3.none f4
  simp -implicitDefEqProofs only [BB,seval,← decide_not,okind,vpre,vpure,intBin,intPre,strBin,strPre,popTo,argSlots,fldV,fldAV,subCells,idxVV,idxAAV,idxSV,sliceV,sliceSV,boundV,szIs,storeOp,storeS,setRowV,eff,extV,buildV,splice,eqSV,fitsL,eqCells,eqCell,minmaxV,capV,binBV,nilCheckV,bytesV,V.cells,V.stays]
  refine Runs.call rfl rfl rfl (numbers_c (x.line :: x.space :: x.words) hn (hB2.grow k4 f4' r4) (by simp only [List.length_cons]; omega) (by rw [upd_same]; simp) (by simp only [List.length_append,List.length_cons,List.length_nil]; omega)) ?_
  rintro r σ5 ⟨rfl, hB5⟩
  have hB6 := hB5.less ((SubStore.refl K).upd_new (hB2.sub.none f4'))
  (refine Runs.of_step Orc.nothing 300 ?_; simp -implicitDefEqProofs only [BB,seval,← decide_not,okind,vpre,vpure,intBin,intPre,strBin,strPre,popTo,argSlots,fldV,fldAV,subCells,idxVV,idxAAV,idxSV,sliceV,sliceSV,boundV,szIs,storeOp,storeS,setRowV,eff,extV,buildV,splice,eqSV,fitsL,eqCells,eqCell,minmaxV,capV,binBV,nilCheckV,bytesV,V.cells,V.stays,Orc.nothing])
  refine Runs.call rfl rfl rfl (wbyte_c btW 41 41 rfl hB6 (by simp only [List.length_append,List.length_cons,List.length_nil] at hJ ⊢; omega)) ?_
  rintro r σ7 ⟨rfl, hB7⟩
  (refine Runs.of_step Orc.nothing 300 ?_; simp -implicitDefEqProofs only [BB,seval,← decide_not,okind,vpre,vpure,intBin,intPre,strBin,strPre,popTo,argSlots,fldV,fldAV,subCells,idxVV,idxAAV,idxSV,sliceV,sliceSV,boundV,szIs,storeOp,storeS,setRowV,eff,extV,buildV,splice,eqSV,fitsL,eqCells,eqCell,minmaxV,capV,binBV,nilCheckV,bytesV,V.cells,V.stays,Orc.nothing])
  refine ⟨_, _, SubStore.refl _, Wk.refl (SubStore.refl _) _, rfl, ?_⟩
  simpa using hB7
end Go.Vc
namespace Go.Vc
open Go.Proofs
set_option maxRecDepth 100000 in
theorem equal_c (a b : List Int) (ha : a.length ≤ 200000000000000) : PFun Tryd.prog 45 [encI a, encI b] (.bool (decide (a = b))) := fun σ => by
  refine Contract.of_runs Tryd.func45 e45 k45 (by simp [c45]) ?_
  refine Runs.mix 14 ?_
  (refine Runs.of_step Orc.nothing 300 ?_; simp -implicitDefEqProofs only [BB,seval,effR_some,effD_some,← decide_not,okind,vpre,vpure,intBin,intPre,strBin,strPre,popTo,argSlots,fldV,fldAV,subCells,idxVV,idxAAV,idxSV,sliceV,sliceSV,boundV,szIs,storeOp,storeS,setRowV,eff,extV,buildV,splice,eqSV,fitsL,eqCells,eqCell,minmaxV,capV,binBV,nilCheckV,bytesV,V.cells,V.stays,Orc.nothing,c45,lenV_encI])
  refine And.intro (fun h => ?_) (fun h => ?_)
  · refine RetV.same ?_
    rw [V.bool.injEq]; symm
    rw [decide_eq_false_iff_not]
    rintro rfl
    simp at h
  · have hl : a.length = b.length := by
      have : (a.length : Int) = b.length := by simpa using h
      omega
    refine Runs.loop (fun m st => ∃ i : Nat, i ≤ a.length ∧ m = a.length - i ∧ a.take i = b.take i ∧ st.σ = σ ∧ st.s 0 = encI a ∧ st.s 1 = encI b ∧ st.s 12 = vI a.length ∧ st.s 13 = vI i) a.length ?_ ?_
    · exact ⟨0, by omega, by omega, rfl, rfl, rfl, rfl, rfl, rfl⟩
    · rintro m ⟨s, σ'⟩ ⟨i, hi, rfl, ht, hσ, h0, h1, h12, h13⟩
      simp only at hσ h0 h1 h12 h13
      subst hσ
      refine Runs.mix 14 ?_
      (refine Runs.of_step Orc.nothing 300 ?_; simp -implicitDefEqProofs only [BB,seval,effR_some,effD_some,← decide_not,okind,vpre,vpure,intBin,intPre,strBin,strPre,popTo,argSlots,fldV,fldAV,subCells,idxVV,idxAAV,idxSV,sliceV,sliceSV,boundV,szIs,storeOp,storeS,setRowV,eff,extV,buildV,splice,eqSV,fitsL,eqCells,eqCell,minmaxV,capV,binBV,nilCheckV,bytesV,V.cells,V.stays,Orc.nothing,h0,h1,h12,h13])
      refine And.intro (fun hlt => ?_) (fun hge => ?_)
      · have hlt' : i < a.length := by omega
        have hlt2 : i < b.length := by omega
        simp -implicitDefEqProofs only [BB,seval,effR_some,effD_some,← decide_not,okind,vpre,vpure,intBin,intPre,strBin,strPre,popTo,argSlots,fldV,fldAV,subCells,idxVV,idxAAV,idxSV,sliceV,sliceSV,boundV,szIs,storeOp,storeS,setRowV,eff,extV,buildV,splice,eqSV,fitsL,eqCells,eqCell,minmaxV,capV,binBV,nilCheckV,bytesV,V.cells,V.stays,idxAV_encI hlt',idxAV_encI hlt2,h0,h1,h12,h13]
        refine And.intro (fun hd => ?_) (fun hd => ?_)
        · refine RetV.same ?_
          rw [V.bool.injEq]; symm
          rw [decide_eq_false_iff_not]
          rintro rfl
          exact hd rfl
        · refine ⟨inR_i64 (by omega) (by omega), _, ?_, i + 1, by omega, rfl, ?_, by simp⟩
          · omega
          · rw [List.take_succ_eq_append_getElem hlt', List.take_succ_eq_append_getElem hlt2, ht]
            have : a[i] = b[i] := by simpa using hd
            rw [this]
      · have hie : i = a.length := by omega
        refine RetV.same ?_
        rw [V.bool.injEq]; symm
        rw [decide_eq_true_eq]
        rw [hie, List.take_length] at ht
        rw [ht, hl, List.take_length]
set_option maxRecDepth 100000 in
theorem one9_c (a b : Nd) (ha : a.words.length ≤ 200000000000000) : PFun Tryd.prog 44 [encN a, encN b] (.bool (decide (a = b))) := fun σ => by
  refine Contract.of_runs Tryd.func44 e44 k44 (by simp [c44]) ?_
  refine Runs.mix 6 ?_
  (refine Runs.of_step Orc.nothing 300 ?_; simp -implicitDefEqProofs only [BB,seval,← decide_not,okind,vpre,vpure,intBin,intPre,strBin,strPre,popTo,argSlots,fldV,fldAV,subCells,idxVV,idxAAV,idxSV,sliceV,sliceSV,boundV,szIs,storeOp,storeS,setRowV,eff,extV,buildV,splice,eqSV,fitsL,eqCells,eqCell,minmaxV,capV,binBV,nilCheckV,bytesV,V.cells,V.stays,Orc.nothing,c44,encN,Nd.cells])
  refine effR_new fun id2 σ1 s1 a2 f2 => ?_
  simp -implicitDefEqProofs only [BB,seval,← decide_not,okind,vpre,vpure,intBin,intPre,strBin,strPre,popTo,argSlots,fldV,fldAV,subCells,idxVV,idxAAV,idxSV,sliceV,sliceSV,boundV,szIs,storeOp,storeS,setRowV,eff,extV,buildV,splice,eqSV,fitsL,eqCells,eqCell,minmaxV,capV,binBV,nilCheckV,bytesV,V.cells,V.stays,a2]
  refine effR_new fun id3 σ2 s2 a3 f3 => ?_
  have n23 := ne_new a2 f3
  have a2 := s2 _ _ a2
  have hs := s1.trans s2
  simp -implicitDefEqProofs only [BB,seval,← decide_not,okind,vpre,vpure,intBin,intPre,strBin,strPre,popTo,argSlots,fldV,fldAV,subCells,idxVV,idxAAV,idxSV,sliceV,sliceSV,boundV,szIs,storeOp,storeS,setRowV,eff,extV,buildV,splice,eqSV,fitsL,eqCells,eqCell,minmaxV,capV,binBV,nilCheckV,bytesV,V.cells,V.stays,a2,a3]
  refine Runs.pcall rfl rfl rfl (equal_c a.words b.words ha _) ?_
  by_cases hw : a.words = b.words
  · have hwt : decide (a.words = b.words) = true := decide_eq_true hw
    (refine Runs.of_step Orc.nothing 300 ?_; simp -implicitDefEqProofs only [BB,seval,← decide_not,okind,vpre,vpure,intBin,intPre,strBin,strPre,popTo,argSlots,fldV,fldAV,subCells,idxVV,idxAAV,idxSV,sliceV,sliceSV,boundV,szIs,storeOp,storeS,setRowV,eff,extV,buildV,splice,eqSV,fitsL,eqCells,eqCell,minmaxV,capV,binBV,nilCheckV,bytesV,V.cells,V.stays,Orc.nothing,hwt,a2,a3,styEq])
    refine And.intro (fun c1 => And.intro (fun c2 => And.intro (fun c3 => And.intro (fun c4 => And.intro (fun c5 => And.intro (fun c6 => And.intro (fun c7 => ?_) (fun c7 => ?_)) (fun c6 => ?_)) (fun c5 => ?_)) (fun c4 => ?_)) (fun c3 => ?_)) (fun c2 => ?_)) (fun c1 => ?_)
    all_goals (refine RetV.pure hs ?_; rw [V.bool.injEq])
    · rw [Bool.eq_iff_iff, decide_eq_true_eq, decide_eq_true_eq]
      cases a; cases b; simp_all
    all_goals (symm; rw [decide_eq_false_iff_not]; rintro rfl; simp at *)
  · have hwt : decide (a.words = b.words) = false := decide_eq_false hw
    (refine Runs.of_step Orc.nothing 300 ?_; simp -implicitDefEqProofs only [BB,seval,← decide_not,okind,vpre,vpure,intBin,intPre,strBin,strPre,popTo,argSlots,fldV,fldAV,subCells,idxVV,idxAAV,idxSV,sliceV,sliceSV,boundV,szIs,storeOp,storeS,setRowV,eff,extV,buildV,splice,eqSV,fitsL,eqCells,eqCell,minmaxV,capV,binBV,nilCheckV,bytesV,V.cells,V.stays,Orc.nothing,hwt,a2,a3,styEq])
    refine RetV.pure hs ?_
    rw [V.bool.injEq]; symm
    rw [decide_eq_false_iff_not]; rintro rfl; exact hw rfl
set_option maxRecDepth 100000 in
theorem eqf_c (a b : List Nd) (ha : Fine a) (hb : Fine b) : PFun Tryd.prog 43 [encNs a, encNs b, .fn 44 []] (.bool (decide (a = b))) := fun σ => by
  have hal := ha.1
  refine Contract.of_runs Tryd.func43 e43 k43 (by simp [c43]) ?_
  refine Runs.mix 18 ?_
  (refine Runs.of_step Orc.nothing 300 ?_; simp -implicitDefEqProofs only [BB,seval,← decide_not,okind,vpre,vpure,intBin,intPre,strBin,strPre,popTo,argSlots,fldV,fldAV,subCells,idxVV,idxAAV,idxSV,sliceV,sliceSV,boundV,szIs,storeOp,storeS,setRowV,eff,extV,buildV,splice,eqSV,fitsL,eqCells,eqCell,minmaxV,capV,binBV,nilCheckV,bytesV,V.cells,V.stays,Orc.nothing,c43,lenV_encNs])
  refine And.intro (fun hl => ?_) (fun hl => ?_)
  · refine RetV.same ?_
    rw [V.bool.injEq]; symm
    rw [decide_eq_false_iff_not]
    rintro rfl
    simp at hl
  · have hl : a.length = b.length := by
      have : (a.length : Int) = b.length := by simpa using hl
      omega
    refine Runs.loop (fun m st => ∃ i : Nat, i ≤ a.length ∧ m = a.length - i ∧ a.take i = b.take i ∧ SubStore σ st.σ ∧ st.s 1 = encNs b ∧ st.s 2 = .fn 44 [] ∧ st.s 15 = encNs a ∧ st.s 16 = vI a.length ∧ st.s 17 = vI i) a.length ?_ ?_
    · exact ⟨0, by omega, by omega, rfl, SubStore.refl _, rfl, rfl, rfl, rfl, rfl⟩
    · rintro m ⟨s, σ'⟩ ⟨i, hi, rfl, ht, hsub, h1, h2, h15, h16, h17⟩
      simp only at hsub h1 h2 h15 h16 h17
      refine Runs.mix 18 ?_
      (refine Runs.of_step Orc.nothing 300 ?_; simp -implicitDefEqProofs only [BB,seval,← decide_not,okind,vpre,vpure,intBin,intPre,strBin,strPre,popTo,argSlots,fldV,fldAV,subCells,idxVV,idxAAV,idxSV,sliceV,sliceSV,boundV,szIs,storeOp,storeS,setRowV,eff,extV,buildV,splice,eqSV,fitsL,eqCells,eqCell,minmaxV,capV,binBV,nilCheckV,bytesV,V.cells,V.stays,Orc.nothing,h1,h2,h15,h16,h17])
      refine And.intro (fun hlt => ?_) (fun hge => ?_)
      · have hlt' : i < a.length := by omega
        have hlt2 : i < b.length := by omega
        have hx := ha.2 _ (List.getElem_mem hlt')
        have hy := hb.2 _ (List.getElem_mem hlt2)
        have hta := List.take_succ_eq_append_getElem hlt'
        have htb := List.take_succ_eq_append_getElem hlt2
        have hxe : a[i]? = some a[i] := by simp [hlt']
        have hye : b[i]? = some b[i] := by simp [hlt2]
        generalize hxg : a[i] = x at *
        generalize hyg : b[i] = y at *
        simp -implicitDefEqProofs only [BB,seval,← decide_not,okind,vpre,vpure,intBin,intPre,strBin,strPre,popTo,argSlots,fldV,fldAV,subCells,idxVV,idxAAV,idxSV,sliceV,sliceSV,boundV,szIs,storeOp,storeS,setRowV,eff,extV,buildV,splice,eqSV,fitsL,eqCells,eqCell,minmaxV,capV,binBV,nilCheckV,bytesV,V.cells,V.stays,idxAV_encNs hlt',idxAV_encNs hlt2,hxg,hyg,Nd.cells,h1,h2,h15,h16,h17]
        refine effR_new fun id1 σ1 s1 a1 f1 => ?_
        simp -implicitDefEqProofs only [BB,seval,← decide_not,okind,vpre,vpure,intBin,intPre,strBin,strPre,popTo,argSlots,fldV,fldAV,subCells,idxVV,idxAAV,idxSV,sliceV,sliceSV,boundV,szIs,storeOp,storeS,setRowV,eff,extV,buildV,splice,eqSV,fitsL,eqCells,eqCell,minmaxV,capV,binBV,nilCheckV,bytesV,V.cells,V.stays,a1,idxAV_encNs hlt',idxAV_encNs hlt2,hxg,hyg,Nd.cells,encI_cells,encI_stays,h1,h2,h15,h16,h17]
        refine effR_new fun id2 σ2 s2 a2 f2 => ?_
        have n12 : id1 ≠ id2 := by rintro rfl; rw [upd_same] at f2; cases f2
        have a1' := s2 id1 _ upd_same
        have hs2 := ((hsub.trans s1).updK (hsub.none f1)).trans s2
        have g2 := ((hsub.trans s1).updK (hsub.none f1)).none f2
        simp -implicitDefEqProofs only [BB,seval,← decide_not,okind,vpre,vpure,intBin,intPre,strBin,strPre,popTo,argSlots,fldV,fldAV,subCells,idxVV,idxAAV,idxSV,sliceV,sliceSV,boundV,szIs,storeOp,storeS,setRowV,eff,extV,buildV,splice,eqSV,fitsL,eqCells,eqCell,minmaxV,capV,binBV,nilCheckV,bytesV,V.cells,V.stays,a1',a2,upd_ne n12,encI_cells,encI_stays,h1,h2,h15,h16,h17]
        refine Runs.pcall rfl rfl rfl (one9_c x y hx _) ?_
        by_cases hd : x = y
        · have hdt : decide (x = y) = true := decide_eq_true hd
          (refine Runs.of_step Orc.nothing 300 ?_; simp -implicitDefEqProofs only [BB,seval,← decide_not,okind,vpre,vpure,intBin,intPre,strBin,strPre,popTo,argSlots,fldV,fldAV,subCells,idxVV,idxAAV,idxSV,sliceV,sliceSV,boundV,szIs,storeOp,storeS,setRowV,eff,extV,buildV,splice,eqSV,fitsL,eqCells,eqCell,minmaxV,capV,binBV,nilCheckV,bytesV,V.cells,V.stays,Orc.nothing,hdt,h1,h2,h15,h16,h17])
          refine ⟨inR_i64 (by omega) (by omega), _, ?_, i + 1, by omega, rfl, ?_, hs2.updK g2, by simp⟩
          · omega
          · rw [hta, htb, ht, hd]
        · have hdt : decide (x = y) = false := decide_eq_false hd
          (refine Runs.of_step Orc.nothing 300 ?_; simp -implicitDefEqProofs only [BB,seval,← decide_not,okind,vpre,vpure,intBin,intPre,strBin,strPre,popTo,argSlots,fldV,fldAV,subCells,idxVV,idxAAV,idxSV,sliceV,sliceSV,boundV,szIs,storeOp,storeS,setRowV,eff,extV,buildV,splice,eqSV,fitsL,eqCells,eqCell,minmaxV,capV,binBV,nilCheckV,bytesV,V.cells,V.stays,Orc.nothing,hdt,h1,h2,h15,h16,h17])
          refine RetV.pure (hs2.updK g2) ?_
          rw [V.bool.injEq]; symm
          rw [decide_eq_false_iff_not]
          rintro rfl
          rw [hxe] at hye
          simp at hye
          exact hd hye
      · have hie : i = a.length := by omega
        refine RetV.pure hsub ?_
        rw [V.bool.injEq]; symm
        rw [decide_eq_true_eq]
        rw [hie, List.take_length] at ht
        rw [ht, hl, List.take_length]
set_option maxRecDepth 100000 in
theorem same9_c (a b : List Nd) (ha : Fine a) (hb : Fine b) : PFun Tryd.prog 21 [encNs a, encNs b] (.bool (decide (a = b))) := fun σ => by
  refine Contract.of_runs Tryd.func21 e21 k21 (by simp [c21]) ?_
  refine Runs.mix 5 ?_
  (refine Runs.of_step Orc.nothing 300 ?_; simp -implicitDefEqProofs only [BB,seval,effR_some,effD_some,← decide_not,okind,vpre,vpure,intBin,intPre,strBin,strPre,popTo,argSlots,fldV,fldAV,subCells,idxVV,idxAAV,idxSV,sliceV,sliceSV,boundV,szIs,storeOp,storeS,setRowV,eff,extV,buildV,splice,eqSV,fitsL,eqCells,eqCell,minmaxV,capV,binBV,nilCheckV,bytesV,V.cells,V.stays,Orc.nothing,c21])
  refine Runs.pcall rfl rfl rfl (eqf_c a b ha hb _) ?_
  (refine Runs.of_step Orc.nothing 300 ?_; simp -implicitDefEqProofs only [BB,seval,effR_some,effD_some,← decide_not,okind,vpre,vpure,intBin,intPre,strBin,strPre,popTo,argSlots,fldV,fldAV,subCells,idxVV,idxAAV,idxSV,sliceV,sliceSV,boundV,szIs,storeOp,storeS,setRowV,eff,extV,buildV,splice,eqSV,fitsL,eqCells,eqCell,minmaxV,capV,binBV,nilCheckV,bytesV,V.cells,V.stays,Orc.nothing])
  exact RetV.same rfl
end Go.Vc
namespace Go.Vc
open Go.Proofs
theorem wnode_c {K σ : Store} {id : Nat} {l : List UInt8} (y : Shp) (hy : ∀ s i, y ≠ .block s i) (hok : okS y) (h : IsB 87 5 K σ id l) (hl : l.length + costs (toldS y) ≤ 900000000) :
    Contract Tryd.prog 54 [.ptr id 0 0, encN (ndS y)] σ fun r σ' => r = .tup [] ∧ IsB 87 5 K σ' id (l ++ txtS y) := by
  cases y
  · rename_i w h'
    exact nodeB_c (ndS (.box w h')) rfl (inN_of hok.1) (inN_of hok.2) h (by omega)
  · exact absurd rfl (hy _ _)
  · rename_i ns
    obtain ⟨a, b, c, r, rfl, ha, hb, hc, hr⟩ := hok
    have hin := (okT_in (ns := a :: b :: c :: r) ⟨a, b, c, r, rfl, ha, hb, hc, hr⟩).1
    simp only [toldS,costs,costN,ndS,List.drop_succ_cons,List.drop_zero] at hl
    exact nodeT_c (ndS (.text (a :: b :: c :: r))) rfl hin (by simp only [ndS,List.drop_succ_cons,List.drop_zero]; omega) h (by simp only [ndS,List.drop_succ_cons,List.drop_zero]; omega)
  · rename_i w h' d
    have := nodeF_c (ndS (.float w h' d)) rfl hok.2.2 (inN_of hok.1) (inN_of hok.2.1) h (by omega)
    exact this
theorem toldS_one {y : Shp} (h : ∀ s i, y ≠ .block s i) : toldS y = [ndS y] ∧ ((ndS y).kind = 1) = False ∧ (ndS y).size = 1 := by
  cases y
  · simp [toldS, ndS]
  · exact absurd rfl (h _ _)
  · simp [toldS, ndS]
  · simp [toldS, ndS]
theorem sliceV_fromA {σ : Store} {l : List Nd} {s : Int} (h1 : 0 ≤ s) (h2 : s ≤ l.length) :
    sliceV σ 20 (encNs l) (some (.int .i64 s)) none none = some (encNs (l.drop s.toNat)) := by
  simp only [encNs,sliceV,boundV,List.length_map]
  rw [if_pos ⟨h1, h2, Int.le_refl _, Int.le_refl _, trivial⟩]
  simp only [V.sl.injEq,Option.some.injEq,true_and]
  rw [List.map_drop, List.take_of_length_le]
  simp
theorem sliceV_encA {σ : Store} {l : List Nd} {s e : Int} (h1 : 0 ≤ s) (h2 : s ≤ e) (h3 : e ≤ l.length) :
    sliceV σ 20 (encNs l) (some (.int .i64 s)) (some (.int .i64 e)) none = some (encNs ((l.drop s.toNat).take (e.toNat - s.toNat))) := by
  simp only [encNs,sliceV,boundV,List.length_map]
  rw [if_pos ⟨h1, h2, h3, Int.le_refl _, trivial⟩]
  simp [List.map_take, List.map_drop]
theorem txtL_append (e : List UInt8) (a b : List Shp) : txtL e (a ++ b) = txtL e a ++ txtL e b := by
  induction a with
  | nil => simp [txtL]
  | cons x a ih => simp [txtL, ih]
theorem okSs_left {a b : List Shp} (h : okSs (a ++ b)) : okSs a := by
  induction a with
  | nil => trivial
  | cons x a ih => exact ⟨h.1, ih h.2⟩
theorem okSs_right {a b : List Shp} (h : okSs (a ++ b)) : okSs b := by
  induction a with
  | nil => exact h
  | cons x a ih => exact ih h.2
set_option maxRecDepth 100000 in
theorem wall_c {id idf : Nat} {ef : TypeId} : ∀ (m : Nat) (K : Store), K idf = some ⟨ef, 1, [.fn 51 [.ptr id 0 0, .ptr idf 0 0]]⟩ → ∀ (xs : List Shp), (toldL xs).length < m → okSs xs → ∀ (e b : List UInt8) (σ : Store), e.length ≤ 1 → b.length + costs (toldL xs) ≤ 800000000 →
    (toldL xs).length ≤ 100000000 → IsB 87 5 K σ id b →
    Contract Tryd.prog 51 [encNs (toldL xs), .str e, .ptr id 0 0, .ptr idf 0 0] σ fun r σ' => r = .tup [] ∧ IsB 87 5 K σ' id (b ++ txtL e xs) ∧ (xs = [] → σ' = σ) := by
  intro m
  induction m with
  | zero => intro K hf xs hm; omega
  | succ m ih => ?_
  intro K hf xs hm hok e b σ he hb hbig h
  refine Contract.of_runs Tryd.func51 e51 k51 (by simp [c51]) ?_
  refine Runs.mix 6 ?_
  (refine Runs.of_step Orc.nothing 300 ?_; simp -implicitDefEqProofs only [BB,seval,← decide_not,okind,vpre,vpure,intBin,intPre,strBin,strPre,popTo,argSlots,fldV,fldAV,subCells,idxVV,idxAAV,idxSV,sliceV,sliceSV,boundV,szIs,storeOp,storeS,setRowV,eff,extV,buildV,splice,eqSV,fitsL,eqCells,eqCell,minmaxV,capV,binBV,nilCheckV,bytesV,V.cells,V.stays,Orc.nothing,c51])
  refine Runs.loop (fun q st => ∃ dn rs : List Shp, xs = dn ++ rs ∧ q = rs.length ∧ IsB 87 5 K st.σ id (b ++ txtL e dn) ∧ (dn = [] → st.σ = σ) ∧ st.s 0 = encNs (toldL rs) ∧ st.s 1 = .str e ∧ st.s 2 = .ptr id 0 0 ∧ st.s 3 = .ptr idf 0 0) xs.length ?_ ?_
  · exact ⟨[], xs, rfl, rfl, by simpa [txtL] using h, fun _ => rfl, rfl, rfl, rfl, rfl⟩
  rintro q ⟨S, σ1⟩ ⟨dn, rs, rfl, rfl, hB, hsame, h0, h1, h2, h3⟩
  simp only at h0 h1 h2 h3 hB hsame
  refine Runs.mix 6 ?_
  cases rs with
  | nil =>
    (refine Runs.of_step Orc.nothing 300 ?_; simp -implicitDefEqProofs only [BB,seval,← decide_not,okind,vpre,vpure,intBin,intPre,strBin,strPre,popTo,argSlots,fldV,fldAV,subCells,idxVV,idxAAV,idxSV,sliceV,sliceSV,boundV,szIs,storeOp,storeS,setRowV,eff,extV,buildV,splice,eqSV,fitsL,eqCells,eqCell,minmaxV,capV,binBV,nilCheckV,bytesV,V.cells,V.stays,Orc.nothing,h0,h1,h2,h3,toldL,encNs,lenV_sl])
    refine ⟨_, _, SubStore.refl _, Wk.refl (SubStore.refl _) _, rfl, by simpa using hB, fun e => hsame (by simpa using e)⟩
  | cons y rs =>
    obtain ⟨hoky, hokr⟩ := okSs_right hok
    have hcst := hb
    rw [toldL_append, toldL, costs_app, costs_app] at hcst
    have hdl := txtL_len dn (okSs_left hok) e he
    have hbig' := hbig
    rw [toldL_append, toldL, List.length_append, List.length_append] at hbig'
    have hidf := hB.sub _ _ hf
    have hnext : dn ++ y :: rs = (dn ++ [y]) ++ rs := by simp
    have htxt : txtL e (dn ++ [y]) = txtL e dn ++ (txtS y ++ e) := by rw [txtL_append]; simp [txtL]
    by_cases hy : ∃ s i, y = .block s i
    · obtain ⟨s, inner, rfl⟩ := hy
      have hL : toldL (.block s inner :: rs) = { ndS (.block s inner) with size := 1 + ((toldL inner).length : Int) } :: (toldL inner ++ toldL rs) := by rw [toldL, toldS]; rfl
      have htl := attX_len (okL_in hoky.1.2) 12 0
      have hcin : 400 + costs (toldL inner) ≤ costs (toldS (.block s inner)) := by simp [toldS, costs, costN]
      have hli : (toldL inner).length + 1 ≤ (toldS (.block s inner)).length := by simp [toldS]
      have htin := txtL_len inner hoky.2 [] (by simp)
      have hmi : (toldL inner).length < m := by rw [toldL_append, toldL, List.length_append, List.length_append] at hm; omega
      rw [hL] at h0
      have hbegin : ∀ (v : V), v = .ptr id 0 0 → ∀ (K σ : Store) (l : List UInt8), IsB 87 5 K σ id l → l.length ≤ 900000000 - 1000 → Contract Tryd.prog 52 [v, .agg (styL s).cells] σ fun r σ' => r = .tup [] ∧ IsB 87 5 K σ' id (l ++ (91 :: attX s 12 0)) := fun v hv K σ l h hl => by
        rw [hv, ← styL_cells hoky.1.1]; exact begin_c s hoky.1.1 (okL_in hoky.1.2) h hl
      have t4 : styL s = ({ ndS (.block s inner) with size := 1 + ((toldL inner).length : Int) } : Nd).st := rfl
      have t3 : ({ ndS (.block s inner) with size := 1 + ((toldL inner).length : Int) } : Nd).size = 1 + ((toldL inner).length : Int) := rfl
      have t2 : (({ ndS (.block s inner) with size := 1 + ((toldL inner).length : Int) } : Nd).kind = 1) = True := eq_true rfl
      rw [t4] at hbegin
      clear t4
      generalize ({ ndS (.block s inner) with size := 1 + ((toldL inner).length : Int) } : Nd) = x at *
      have hidx : ∀ σ, idxAV σ 20 (encNs (x :: (toldL inner ++ toldL rs))) (.int .i64 0) = some (.rp (.agg x.cells)) := fun σ => idxAV_encNs (i := 0) (by simp)
      have hlen : ((((toldL inner ++ toldL rs).length + 1 : Nat) : Int) > 0) = True := eq_true (by omega)
      have hsl : ∀ σ, sliceV σ 20 (encNs (x :: (toldL inner ++ toldL rs))) (some (.int .i64 1)) (some (.int .i64 x.size)) none = some (encNs (toldL inner)) := fun σ => by
        rw [sliceV_encA (by omega) (by omega) (by rw [t3]; simp; omega), t3]
        rw [show (1 + ((toldL inner).length : Int)).toNat - (1 : Int).toNat = (toldL inner).length by omega]
        simp
      have hsf : ∀ σ, sliceV σ 20 (encNs (x :: (toldL inner ++ toldL rs))) (some (.int .i64 x.size)) none none = some (encNs (toldL rs)) := fun σ => by
        rw [sliceV_fromA (by omega) (by rw [t3]; simp; omega), t3]
        rw [show (1 + ((toldL inner).length : Int)).toNat = (toldL inner).length + 1 by omega]
        simp
      generalize toldL inner ++ toldL rs = tl at *
      (refine Runs.of_step Orc.nothing 300 ?_; simp -implicitDefEqProofs only [BB,seval,← decide_not,okind,vpre,vpure,intBin,intPre,strBin,strPre,popTo,argSlots,fldV,fldAV,subCells,idxVV,idxAAV,idxSV,sliceSV,boundV,szIs,storeOp,storeS,setRowV,eff,extV,buildV,splice,eqSV,fitsL,eqCells,eqCell,minmaxV,capV,binBV,nilCheckV,bytesV,V.cells,V.stays,Orc.nothing,h0,h1,h2,h3,lenV_encNs,hlen,hidx,loadV_rp_node,encN,Nd.cells,encI])
      refine effR_new fun id6 σ6 s6 r6 f6 => ?_
      have hne : idf ≠ id6 := ne_new hidf f6
      simp -implicitDefEqProofs only [BB,seval,← decide_not,okind,vpre,vpure,intBin,intPre,strBin,strPre,popTo,argSlots,fldV,fldAV,subCells,idxVV,idxAAV,idxSV,sliceSV,boundV,szIs,storeOp,storeS,setRowV,eff,extV,buildV,splice,eqSV,fitsL,eqCells,eqCell,minmaxV,capV,binBV,nilCheckV,bytesV,V.cells,V.stays,r6,h0,h1,h2,h3,t2]
      refine Runs.call rfl rfl rfl (hbegin _ h2 _ _ _ (hB.grow (s6.updK f6) f6 upd_same) (by simp only [List.length_append]; omega)) ?_
      rintro r σ7 ⟨rfl, hB7⟩
      have hr7 := hB7.sub _ _ upd_same
      have hf7 := hB7.sub idf _ (by rw [upd_ne hne]; exact hf)
      (refine Runs.of_step Orc.nothing 300 ?_; simp -implicitDefEqProofs only [BB,seval,← decide_not,okind,vpre,vpure,intBin,intPre,strBin,strPre,popTo,argSlots,fldV,fldAV,subCells,idxVV,idxAAV,idxSV,sliceSV,boundV,szIs,storeOp,storeS,setRowV,eff,extV,buildV,splice,eqSV,fitsL,eqCells,eqCell,minmaxV,capV,binBV,nilCheckV,bytesV,V.cells,V.stays,Orc.nothing,hr7,hf7,h0,h1,h2,h3,hsl])
      refine Runs.call rfl rfl rfl (ih _ (by rw [upd_ne hne]; exact hf) inner hmi hoky.2 [] _ _ (by simp) (by simp only [List.length_append,List.length_cons]; omega) (by omega) hB7) ?_
      rintro r σ8 ⟨rfl, hB8, -⟩
      (refine Runs.of_step Orc.nothing 300 ?_; simp -implicitDefEqProofs only [BB,seval,← decide_not,okind,vpre,vpure,intBin,intPre,strBin,strPre,popTo,argSlots,fldV,fldAV,subCells,idxVV,idxAAV,idxSV,sliceSV,boundV,szIs,storeOp,storeS,setRowV,eff,extV,buildV,splice,eqSV,fitsL,eqCells,eqCell,minmaxV,capV,binBV,nilCheckV,bytesV,V.cells,V.stays,Orc.nothing,h0,h1,h2,h3])
      refine Runs.call rfl rfl rfl (wbyte_c btW 93 93 rfl hB8 (by simp only [List.length_append,List.length_cons]; omega)) ?_
      rintro r σ9 ⟨rfl, hB9⟩
      (refine Runs.of_step Orc.nothing 300 ?_; simp -implicitDefEqProofs only [BB,seval,← decide_not,okind,vpre,vpure,intBin,intPre,strBin,strPre,popTo,argSlots,fldV,fldAV,subCells,idxVV,idxAAV,idxSV,sliceSV,boundV,szIs,storeOp,storeS,setRowV,eff,extV,buildV,splice,eqSV,fitsL,eqCells,eqCell,minmaxV,capV,binBV,nilCheckV,bytesV,V.cells,V.stays,Orc.nothing,h0,h1,h2,h3])
      refine Runs.call rfl rfl rfl (wstr_c btW e hB9 (by simp only [List.length_append,List.length_cons,List.length_nil]; omega)) ?_
      rintro r σ10 ⟨rfl, hB10⟩
      have hr10 := hB10.sub _ _ upd_same
      have hB11 := hB10.less ((SubStore.refl K).upd_new (hB.sub.none f6))
      (refine Runs.of_step Orc.nothing 300 ?_; simp -implicitDefEqProofs only [BB,seval,← decide_not,okind,vpre,vpure,intBin,intPre,strBin,strPre,popTo,argSlots,fldV,fldAV,subCells,idxVV,idxAAV,idxSV,sliceSV,boundV,szIs,storeOp,storeS,setRowV,eff,extV,buildV,splice,eqSV,fitsL,eqCells,eqCell,minmaxV,capV,binBV,nilCheckV,bytesV,V.cells,V.stays,Orc.nothing,hr10,h0,h1,h2,h3,hsf])
      refine ⟨_, Nat.lt_succ_self _, dn ++ [.block s inner], rs, hnext, rfl, ?_, by simp, by simp⟩
      rw [htxt]; simpa [txtS] using hB11
    · have hy' : ∀ s i, y ≠ .block s i := fun s i e => hy ⟨s, i, e⟩
      obtain ⟨t1, t2, t3⟩ := toldS_one hy'
      have hL : toldL (y :: rs) = ndS y :: toldL rs := by rw [toldL, t1]; rfl
      have hnode : ∀ (v : V), v = .ptr id 0 0 → ∀ (K σ : Store) (l : List UInt8), IsB 87 5 K σ id l → l.length + costs (toldS y) ≤ 900000000 → Contract Tryd.prog 54 [v, encN (ndS y)] σ fun r σ' => r = .tup [] ∧ IsB 87 5 K σ' id (l ++ txtS y) := fun v hv K σ l h hl => by rw [hv]; exact wnode_c y hy' hoky h hl
      have htl := txtS_len y hoky
      rw [hL] at h0
      have hidx : ∀ σ, idxAV σ 20 (encNs (ndS y :: toldL rs)) (.int .i64 0) = some (.rp (.agg (ndS y).cells)) := fun σ => idxAV_encNs (i := 0) (by simp)
      have hlen : ((((toldL rs).length + 1 : Nat) : Int) > 0) = True := eq_true (by omega)
      have hsf : ∀ σ, sliceV σ 20 (encNs (ndS y :: toldL rs)) (some (.int .i64 1)) none none = some (encNs (toldL rs)) := fun σ => by rw [sliceV_fromA (by omega) (by simp; omega)]; rfl
      generalize ndS y = x at *
      (refine Runs.of_step Orc.nothing 300 ?_; simp -implicitDefEqProofs only [BB,seval,← decide_not,okind,vpre,vpure,intBin,intPre,strBin,strPre,popTo,argSlots,fldV,fldAV,subCells,idxVV,idxAAV,idxSV,sliceSV,boundV,szIs,storeOp,storeS,setRowV,eff,extV,buildV,splice,eqSV,fitsL,eqCells,eqCell,minmaxV,capV,binBV,nilCheckV,bytesV,V.cells,V.stays,Orc.nothing,h0,h1,h2,h3,lenV_encNs,hlen,hidx,loadV_rp_node,encN,Nd.cells,encI])
      refine effR_new fun id6 σ6 s6 r6 f6 => ?_
      simp -implicitDefEqProofs only [BB,seval,← decide_not,okind,vpre,vpure,intBin,intPre,strBin,strPre,popTo,argSlots,fldV,fldAV,subCells,idxVV,idxAAV,idxSV,sliceSV,boundV,szIs,storeOp,storeS,setRowV,eff,extV,buildV,splice,eqSV,fitsL,eqCells,eqCell,minmaxV,capV,binBV,nilCheckV,bytesV,V.cells,V.stays,r6,h0,h1,h2,h3,t2]
      refine Runs.call rfl rfl rfl (hnode _ h2 _ _ _ (hB.grow (s6.updK f6) f6 upd_same) (by simp only [List.length_append]; omega)) ?_
      rintro r σ7 ⟨rfl, hB7⟩
      (refine Runs.of_step Orc.nothing 300 ?_; simp -implicitDefEqProofs only [BB,seval,← decide_not,okind,vpre,vpure,intBin,intPre,strBin,strPre,popTo,argSlots,fldV,fldAV,subCells,idxVV,idxAAV,idxSV,sliceSV,boundV,szIs,storeOp,storeS,setRowV,eff,extV,buildV,splice,eqSV,fitsL,eqCells,eqCell,minmaxV,capV,binBV,nilCheckV,bytesV,V.cells,V.stays,Orc.nothing,h0,h1,h2,h3])
      refine Runs.call rfl rfl rfl (wstr_c btW e hB7 (by simp only [List.length_append]; omega)) ?_
      rintro r σ8 ⟨rfl, hB8⟩
      have hr8 := hB8.sub _ _ upd_same
      have hB9 := hB8.less ((SubStore.refl K).upd_new (hB.sub.none f6))
      (refine Runs.of_step Orc.nothing 300 ?_; simp -implicitDefEqProofs only [BB,seval,← decide_not,okind,vpre,vpure,intBin,intPre,strBin,strPre,popTo,argSlots,fldV,fldAV,subCells,idxVV,idxAAV,idxSV,sliceSV,boundV,szIs,storeOp,storeS,setRowV,eff,extV,buildV,splice,eqSV,fitsL,eqCells,eqCell,minmaxV,capV,binBV,nilCheckV,bytesV,V.cells,V.stays,Orc.nothing,hr8,h0,h1,h2,h3,t3,hsf])
      refine ⟨_, Nat.lt_succ_self _, dn ++ [y], rs, hnext, rfl, ?_, by simp, by simp⟩
      rw [htxt]; simpa using hB9
end Go.Vc
namespace Go.Vc
def shpN (x : Nd) : Shp := if x.kind = 2 then .text (x.line :: x.space :: x.words) else if x.kind = 3 then .box x.w x.h else .float x.w x.h x.side
def styI (s : Sty) : List Int := [s.top, s.bottom, s.padTop, s.padBottom, s.inset, s.orphans, s.widows, s.head, s.before, s.after, s.inside, s.clear]
theorem styI_ok {s : Sty} (h : s.ok = true) : okL (styI s) := by
  have hMX : MX = 1099511627776 := rfl
  simp [Sty.ok, isFrom, mx] at h
  intro k v hk
  have hk12 : k < 12 := (List.getElem?_eq_some_iff.1 hk).1
  match k, hk12 with
  | 0, _ | 1, _ | 2, _ | 3, _ | 4, _ | 5, _ | 6, _ | 7, _ | 8, _ | 9, _ | 10, _ | 11, _ =>
    simp only [styI,List.getElem?_cons_zero,List.getElem?_cons_succ,Option.some.injEq] at hk
    subst hk
    simp [loK, hiK]
    omega
theorem isFrom_iff {n a b : Int} : isFrom n a b = true ↔ a ≤ n ∧ n ≤ b := by unfold isFrom; simp
theorem mxMX : mx = MX := rfl
theorem shpN_ok {x : Nd} (h : x.ok = true) (h1 : x.kind ≠ 1) (hs : x.size = 1) : toldS (shpN x) = [x] ∧ okS (shpN x) := by
  have hMX : MX = 1099511627776 := rfl
  unfold Nd.ok at h
  rw [if_neg h1] at h
  split at h
  · cases h
  · rename_i hst
    have hst : x.st = Sty.zero := Classical.byContradiction hst
    obtain ⟨kind, size, st, line, space, words, side, w, hh⟩ := x
    simp only at h h1 hs hst
    subst hst hs
    split at h
    · rename_i h2
      simp only [Bool.and_eq_true,decide_eq_true_eq,isFrom_iff,mxMX] at h
      obtain ⟨⟨⟨⟨⟨⟨a1, a2⟩, a3⟩, a4⟩, a5⟩, a6⟩, a7⟩ := h
      subst h2 a5 a6 a7
      refine ⟨rfl, ?_⟩
      show okS (.text (line :: space :: words))
      rw [okS]
      cases words with
      | nil => simp at a2
      | cons c r =>
        have hall := List.all_eq_true.1 a1
        have hc := isFrom_iff.1 (hall c (by simp))
        exact ⟨line, space, c, r, rfl, a3, a4, hc, fun n hn => isFrom_iff.1 (hall n (by simp [hn]))⟩
    · rename_i h2
      simp only [Bool.and_eq_true,Bool.or_eq_true,decide_eq_true_eq,isFrom_iff,mxMX] at h
      obtain ⟨⟨⟨⟨⟨a1, a2⟩, a3⟩, a4⟩, a5⟩, a6⟩ := h
      have hw : words = [] := List.length_eq_zero_iff.1 a3
      subst a1 a2 hw
      rcases a6 with ⟨k3, rfl⟩ | ⟨k4, hsd⟩
      · subst k3
        refine ⟨rfl, ?_⟩
        show okS (.box w hh)
        rw [okS]; exact ⟨a4, a5⟩
      · subst k4
        refine ⟨rfl, ?_⟩
        show okS (.float w hh side)
        rw [okS]; exact ⟨a4, a5, by omega⟩
theorem blk_ok {x : Nd} (h : x.ok = true) (h1 : x.kind = 1) (inner : List Shp) (hs : x.size = 1 + ((toldL inner).length : Int)) (hi : okSs inner) : toldS (.block (styI x.st) inner) = x :: toldL inner ∧ okS (.block (styI x.st) inner) := by
  unfold Nd.ok at h
  rw [if_pos h1] at h
  simp only [Bool.and_eq_true,decide_eq_true_eq] at h
  obtain ⟨⟨⟨⟨⟨⟨a1, a2⟩, a3⟩, a4⟩, a5⟩, a6⟩, a7⟩ := h
  obtain ⟨kind, size, st, line, space, words, side, w, hh⟩ := x
  simp only at a1 a2 a3 a4 a5 a6 a7 h1 hs
  have hw : words = [] := List.length_eq_zero_iff.1 a4
  subst a2 a3 hw a5 a6 a7 h1 hs
  refine ⟨by rw [toldS]; rfl, ?_⟩
  rw [okS]
  exact ⟨⟨rfl, styI_ok a1⟩, hi⟩
theorem shapes_of' : ∀ (m : Nat) (l : List Nd), l.length ≤ m → l.all Nd.ok = true → rowsB l 0 l.length = true → ∃ xs, toldL xs = l ∧ okSs xs := by
  intro m
  induction m with
  | zero =>
    intro l hm _ _
    have : l = [] := List.length_eq_zero_iff.1 (by omega)
    subst this
    exact ⟨[], rfl, trivial⟩
  | succ m ih =>
    intro l hm hok hr
    cases l with
    | nil => exact ⟨[], rfl, trivial⟩
    | cons x l =>
      simp only [List.length_cons] at hm hr
      rw [rowsB, dif_pos (by omega)] at hr
      simp only [List.getElem?_cons_zero] at hr
      split at hr
      · rename_i hx
        simp only [Bool.and_eq_true,Bool.or_eq_true,decide_eq_true_eq] at hr
        obtain ⟨⟨hk, h1⟩, h2⟩ := hr
        simp only [Nat.zero_add] at h1 h2
        rw [List.all_cons, Bool.and_eq_true] at hok
        obtain ⟨k, hk1⟩ : ∃ k : Nat, x.size = 1 + (k : Int) := ⟨(x.size - 1).toNat, by omega⟩
        have hkl : k ≤ l.length := by omega
        have e1 : x.size.toNat = 1 + k := by omega
        rw [e1] at h1 h2
        have w1 := rowsB_window (x :: l) 1 k (k + 1) 0 k (by omega) (Nat.le_refl _) (by simp; omega)
        have w2 := rowsB_window (x :: l) (1 + k) (l.length - k) (l.length - k + 1) 0 (l.length - k) (by omega) (Nat.le_refl _) (by simp; omega)
        rw [Nat.add_zero, h1] at w1
        rw [Nat.add_zero, show 1 + k + (l.length - k) = l.length + 1 by omega, h2] at w2
        have d1 : ((x :: l).drop 1).take k = l.take k := rfl
        have d2 : ((x :: l).drop (1 + k)).take (l.length - k) = l.drop k := by
          rw [show 1 + k = k + 1 by omega, List.drop_succ_cons]
          exact List.take_of_length_le (by simp)
        rw [d1] at w1
        rw [d2] at w2
        have hall := List.all_eq_true.1 hok.2
        obtain ⟨ys, y1, y2⟩ := ih (l.drop k) (by simp; omega) (List.all_eq_true.2 fun z hz => hall z (List.mem_of_mem_drop hz)) (by simpa using w2)
        obtain ⟨zs, z1, z2⟩ := ih (l.take k) (by simp; omega) (List.all_eq_true.2 fun z hz => hall z (List.mem_of_mem_take hz)) (by rw [List.length_take, Nat.min_eq_left hkl]; exact w1)
        by_cases hkind : x.kind = 1
        · obtain ⟨b1, b2⟩ := blk_ok hok.1 hkind zs (by rw [z1, List.length_take, Nat.min_eq_left hkl]; exact hk1) z2
          refine ⟨.block (styI x.st) zs :: ys, ?_, by rw [okSs]; exact ⟨b2, y2⟩⟩
          rw [toldL, b1, z1, y1, List.cons_append, List.take_append_drop]
        · have hs1 : x.size = 1 := by
            rcases hk with h | h
            · exact absurd h hkind
            · omega
          have hk0 : k = 0 := by omega
          subst hk0
          obtain ⟨b1, b2⟩ := shpN_ok hok.1 hkind hs1
          refine ⟨shpN x :: ys, ?_, by rw [okSs]; exact ⟨b2, y2⟩⟩
          rw [toldL, b1, y1]; rfl
      · cases hr
theorem shapes_of {l : List Nd} (h : isB l = true) : ∃ xs, toldL xs = l ∧ okSs xs := by
  simp only [isB,Bool.and_eq_true] at h
  exact shapes_of' l.length l (Nat.le_refl _) h.1 h.2
mutual
theorem okS_nodes : ∀ (x : Shp), okS x → ∀ y ∈ toldS x, y.ok = true
  | .box w h, ho, y, hy => by
    rw [okS] at ho
    rw [toldS] at hy
    simp only [List.mem_singleton] at hy
    subst hy
    have hMX : MX = 1099511627776 := rfl
    simp [ndS, Nd.ok, isFrom, mx]; omega
  | .float w h d, ho, y, hy => by
    rw [okS] at ho
    rw [toldS] at hy
    simp only [List.mem_singleton] at hy
    subst hy
    have hMX : MX = 1099511627776 := rfl
    exact float_ok2 w h d (by simp [isFrom, mx]; omega) (by simp [isFrom, mx]; omega) ho.2.2
  | .text ns, ho, y, hy => by
    rw [okS] at ho
    obtain ⟨a, b, c, r, rfl, h1, h2, h3, h4⟩ := ho
    rw [toldS] at hy
    simp only [List.mem_singleton] at hy
    subst hy
    have hMX : MX = 1099511627776 := rfl
    simp only [ndS,List.getD_cons_zero,List.getD_cons_succ,List.drop_succ_cons,List.drop_zero,Nd.ok]
    have h5 : r.all (isFrom · 1 mx) = true := List.all_eq_true.2 fun n hn => by have := h4 n hn; simp [isFrom, mx]; omega
    simp only [List.all_cons,h5,List.length_cons]
    simp [isFrom, mx]; omega
  | .block s inner, ho, y, hy => by
    rw [okS] at ho
    rw [toldS] at hy
    simp only [List.mem_cons] at hy
    rcases hy with rfl | hy
    · rw [ok_size rfl]
      simp [ndS, Nd.ok, styL_ok ho.1.1 ho.1.2]
    · exact okSs_nodes inner ho.2 y hy
theorem okSs_nodes : ∀ (xs : List Shp), okSs xs → ∀ y ∈ toldL xs, y.ok = true
  | [], _, y, hy => by cases hy
  | x :: l, ho, y, hy => by
    rw [okSs] at ho
    rw [toldL, List.mem_append] at hy
    rcases hy with hy | hy
    · exact okS_nodes x ho.1 y hy
    · exact okSs_nodes l ho.2 y hy
end
theorem okSs_isB {xs : List Shp} (h : okSs xs) : isB (toldL xs) = true := isB_told (okSs_nodes xs h)
end Go.Vc
namespace Go.Vc
open Go.Proofs
theorem txtL_nil {xs : List Shp} (h : txtL [10] xs = []) : xs = [] := by
  cases xs with
  | nil => rfl
  | cons x l => simp [txtL] at h
theorem write_c (xs : List Shp) (hok : okSs xs) (hF : Fine (toldL xs)) (hcs : costs (toldL xs) ≤ 800000000) : PFun Tryd.prog 28 [encNs (toldL xs)] (.tup [.str (txtL [10] xs), vI 0]) := fun σ => by
  have hB : isB (toldL xs) = true := okSs_isB hok
  refine Contract.of_runs Tryd.func28 e28 k28 (by simp [c28]) ?_
  refine Runs.mix 6 ?_
  (refine Runs.of_step Orc.nothing 300 ?_; simp -implicitDefEqProofs only [BB,seval,← decide_not,okind,vpre,vpure,intBin,intPre,strBin,strPre,popTo,argSlots,fldV,fldAV,subCells,idxVV,idxAAV,idxSV,sliceV,sliceSV,boundV,szIs,storeOp,storeS,setRowV,eff,extV,buildV,splice,eqSV,fitsL,eqCells,eqCell,minmaxV,capV,binBV,nilCheckV,bytesV,V.cells,V.stays,Orc.nothing,c28])
  refine Runs.pcall rfl rfl rfl (isv_c _ hF _) ?_
  (refine Runs.of_step Orc.nothing 300 ?_; simp -implicitDefEqProofs only [BB,seval,← decide_not,okind,vpre,vpure,intBin,intPre,strBin,strPre,popTo,argSlots,fldV,fldAV,subCells,idxVV,idxAAV,idxSV,sliceV,sliceSV,boundV,szIs,storeOp,storeS,setRowV,eff,extV,buildV,splice,eqSV,fitsL,eqCells,eqCell,minmaxV,capV,binBV,nilCheckV,bytesV,V.cells,V.stays,Orc.nothing,hB])
  refine effR_new fun id4 σ4 s4 r4 f4 => ?_
  simp -implicitDefEqProofs only [BB,seval,← decide_not,okind,vpre,vpure,intBin,intPre,strBin,strPre,popTo,argSlots,fldV,fldAV,subCells,idxVV,idxAAV,idxSV,sliceV,sliceSV,boundV,szIs,storeOp,storeS,setRowV,eff,extV,buildV,splice,eqSV,fitsL,eqCells,eqCell,minmaxV,capV,binBV,nilCheckV,bytesV,V.cells,V.stays,r4]
  refine effR_new fun id5 σ5 s5 r5 f5 => ?_
  have n45 : id4 ≠ id5 := ne_new r4 f5
  simp -implicitDefEqProofs only [BB,seval,← decide_not,okind,vpre,vpure,intBin,intPre,strBin,strPre,popTo,argSlots,fldV,fldAV,subCells,idxVV,idxAAV,idxSV,sliceV,sliceSV,boundV,szIs,storeOp,storeS,setRowV,eff,extV,buildV,splice,eqSV,fitsL,eqCells,eqCell,minmaxV,capV,binBV,nilCheckV,bytesV,V.cells,V.stays,r5]
  have fs5 : σ id5 = none := s4.none f5
  have hK : (upd σ id5 ⟨88, 1, [.fn 51 [.ptr id4 0 0, .ptr id5 0 0]]⟩) id5 = some ⟨88, 1, [.fn 51 [.ptr id4 0 0, .ptr id5 0 0]]⟩ := upd_same
  have hrow : (upd σ5 id5 ⟨88, 1, [.fn 51 [.ptr id4 0 0, .ptr id5 0 0]]⟩) id4 = some (bRow 87 .nilp .nils) := by rw [upd_ne n45]; exact s5 _ _ r4
  have hB0 : IsB 87 5 (upd σ id5 ⟨88, 1, [.fn 51 [.ptr id4 0 0, .ptr id5 0 0]]⟩) (upd σ5 id5 ⟨88, 1, [.fn 51 [.ptr id4 0 0, .ptr id5 0 0]]⟩) id4 [] := IsB.start ((s4.trans s5).upd2) (by rw [upd_ne n45]; exact f4) hrow
  have hlen := hF.1
  refine Runs.call rfl rfl rfl (wall_c _ _ hK xs (Nat.lt_succ_self _) hok [10] [] _ (by simp) (by simpa using hcs) (by omega) hB0) ?_
  rintro r σ6 ⟨rfl, hB6, hsame⟩
  (refine Runs.of_step Orc.nothing 300 ?_; simp -implicitDefEqProofs only [BB,seval,← decide_not,okind,vpre,vpure,intBin,intPre,strBin,strPre,popTo,argSlots,fldV,fldAV,subCells,idxVV,idxAAV,idxSV,sliceV,sliceSV,boundV,szIs,storeOp,storeS,setRowV,eff,extV,buildV,splice,eqSV,fitsL,eqCells,eqCell,minmaxV,capV,binBV,nilCheckV,bytesV,V.cells,V.stays,Orc.nothing])
  refine Runs.call rfl rfl rfl (bstr_c hB6 (fun e => ?_)) ?_
  · have e1 := hsame (txtL_nil (by simpa using e))
    refine ⟨.nilp, ?_⟩
    show σ6 id4 = _
    rw [e1]; exact hrow
  rintro r σ7 ⟨rfl, rfl⟩
  (refine Runs.of_step Orc.nothing 300 ?_; simp -implicitDefEqProofs only [BB,seval,← decide_not,okind,vpre,vpure,intBin,intPre,strBin,strPre,popTo,argSlots,fldV,fldAV,subCells,idxVV,idxAAV,idxSV,sliceV,sliceSV,boundV,szIs,storeOp,storeS,setRowV,eff,extV,buildV,splice,eqSV,fitsL,eqCells,eqCell,minmaxV,capV,binBV,nilCheckV,bytesV,V.cells,V.stays,Orc.nothing])
  exact .pure ((SubStore.refl σ).updK fs5) (by simp)
end Go.Vc
namespace Go.Vc
def ofF : Nat → List UInt8 → Bool → Nat → Res
  | 0, _, _, _ => .ok []
  | f + 1, s, c, i =>
    if i < s.length then
      if sizeR s i = 0 then .bad i
      else if c then ofF f s (decide (byt s i ≠ 10)) (i + sizeR s i)
      else if byt s i = 35 then ofF f s true (i + 1)
      else if byt s i = 32 ∨ byt s i = 9 ∨ byt s i = 10 then ofF f s false (i + 1)
      else if 48 ≤ byt s i ∧ byt s i ≤ 57 then
        if numBad (digsAt s i) then .bad i
        else (ofF f s false (i + digLen (s.drop i))).cons ⟨2, 0, numR (digsAt s i), i⟩
      else (ofF f s false (i + sizeR s i)).cons ⟨1, runeR s i (sizeR s i), 0, i⟩
    else .ok []
theorem ofF_eq (s : List UInt8) : ∀ (f : Nat) (c : Bool) (i : Nat), s.length - i ≤ f → ofF f s c i = ofI s c i
  | 0, c, i, h => by rw [ofI_end (by omega)]; rfl
  | f + 1, c, i, h => by
    unfold ofF
    by_cases hlt : i < s.length
    · rw [if_pos hlt]
      by_cases hz : sizeR s i = 0
      · rw [if_pos hz, ofI_bad hlt hz]
      · rw [if_neg hz]
        cases c
        · rw [if_neg (by simp)]
          by_cases h35 : byt s i = 35
          · rw [if_pos h35, ofI_hash hlt hz h35, ofF_eq s f true (i + 1) (by omega)]
          · rw [if_neg h35]
            by_cases hw : byt s i = 32 ∨ byt s i = 9 ∨ byt s i = 10
            · rw [if_pos hw, ofI_white hlt hz hw, ofF_eq s f false (i + 1) (by omega)]
            · rw [if_neg hw]
              by_cases hd : 48 ≤ byt s i ∧ byt s i ≤ 57
              · have hdp := digLen_pos hd.1 hd.2
                rw [if_pos hd, ofI_num hlt hz hd, ofF_eq s f false _ (by omega)]
              · rw [if_neg hd, ofI_sign hlt hz (by omega), ofF_eq s f false _ (by omega)]
        · rw [if_pos rfl, ofI_com hlt hz, ofF_eq s f _ _ (by omega)]
    · rw [if_neg hlt, ofI_end hlt]
end Go.Vc
namespace Go.Vc
open Go.Proofs
def readF (s : List UInt8) : List Nd × Int × Int := match ofF s.length s false 0 with
  | .bad p => ([], p, 1)
  | .ok l => match (nodesR l.length l).2.1 with
    | t :: _ => ([], t.at', 1)
    | [] => if (nodesR l.length l).2.2 then ([], s.length, 1) else (toldL (nodesR l.length l).1, 0, 0)
theorem readF_eq (s : List UInt8) : readF s = readR s := by
  unfold readF readR
  rw [ofF_eq s s.length false 0 (by omega)]
  all_goals (cases ofI s false 0 <;> rfl)
end Go.Vc
namespace Go.Vc
open Go.Proofs
theorem ne_self_int (a : Int) : (a ≠ a) = False := by simp
end Go.Vc
namespace Go.Vc
open Go.Proofs
theorem canonBad_c (s : List UInt8) (hs : s.length ≤ 1000000) (he : (readR s).2.2 ≠ 0) : PFun Tryd.prog 30 [.str s] (.tup [.str [], vI (readR s).2.1, vI (readR s).2.2]) := fun σ => by
  refine Contract.of_runs Tryd.func30 e30 k30 (by simp [c30]) ?_
  refine Runs.mix 6 ?_
  (refine Runs.of_step Orc.nothing 300 ?_; simp -implicitDefEqProofs only [BB,seval,← decide_not,okind,vpre,vpure,intBin,intPre,strBin,strPre,popTo,argSlots,fldV,fldAV,subCells,idxVV,idxAAV,idxSV,sliceV,sliceSV,boundV,szIs,storeOp,storeS,setRowV,eff,extV,buildV,splice,eqSV,fitsL,eqCells,eqCell,minmaxV,capV,binBV,nilCheckV,bytesV,V.cells,V.stays,Orc.nothing,c30])
  refine Runs.pcall rfl rfl rfl (readOf_c s hs _) ?_
  have q : ((readR s).2.2 ≠ 0) = True := eq_true he
  (refine Runs.of_step Orc.nothing 300 ?_; simp -implicitDefEqProofs only [BB,seval,← decide_not,okind,vpre,vpure,intBin,intPre,strBin,strPre,popTo,argSlots,fldV,fldAV,subCells,idxVV,idxAAV,idxSV,sliceV,sliceSV,boundV,szIs,storeOp,storeS,setRowV,eff,extV,buildV,splice,eqSV,fitsL,eqCells,eqCell,minmaxV,capV,binBV,nilCheckV,bytesV,V.cells,V.stays,Orc.nothing,readV,q])
  exact RetV.same rfl
theorem canonOk_c (s : List UInt8) (hs : s.length ≤ 1000000) (xs : List Shp) (he : readR s = (toldL xs, 0, 0)) (hok : okSs xs) (hF : Fine (toldL xs)) (hcs : costs (toldL xs) ≤ 800000000) : PFun Tryd.prog 30 [.str s] (.tup [.str (txtL [10] xs), vI 0, vI 0]) := fun σ => by
  refine Contract.of_runs Tryd.func30 e30 k30 (by simp [c30]) ?_
  refine Runs.mix 6 ?_
  (refine Runs.of_step Orc.nothing 300 ?_; simp -implicitDefEqProofs only [BB,seval,← decide_not,okind,vpre,vpure,intBin,intPre,strBin,strPre,popTo,argSlots,fldV,fldAV,subCells,idxVV,idxAAV,idxSV,sliceV,sliceSV,boundV,szIs,storeOp,storeS,setRowV,eff,extV,buildV,splice,eqSV,fitsL,eqCells,eqCell,minmaxV,capV,binBV,nilCheckV,bytesV,V.cells,V.stays,Orc.nothing,c30])
  refine Runs.pcall rfl rfl rfl (readOf_c s hs _) ?_
  rw [he]
  (refine Runs.of_step Orc.nothing 300 ?_; simp -implicitDefEqProofs only [BB,seval,← decide_not,okind,vpre,vpure,intBin,intPre,strBin,strPre,popTo,argSlots,fldV,fldAV,subCells,idxVV,idxAAV,idxSV,sliceV,sliceSV,boundV,szIs,storeOp,storeS,setRowV,eff,extV,buildV,splice,eqSV,fitsL,eqCells,eqCell,minmaxV,capV,binBV,nilCheckV,bytesV,V.cells,V.stays,Orc.nothing,readV])
  refine Runs.pcall rfl rfl rfl (write_c xs hok hF hcs _) ?_
  (refine Runs.of_step Orc.nothing 300 ?_; simp -implicitDefEqProofs only [BB,seval,← decide_not,okind,vpre,vpure,intBin,intPre,strBin,strPre,popTo,argSlots,fldV,fldAV,subCells,idxVV,idxAAV,idxSV,sliceV,sliceSV,boundV,szIs,storeOp,storeS,setRowV,eff,extV,buildV,splice,eqSV,fitsL,eqCells,eqCell,minmaxV,capV,binBV,nilCheckV,bytesV,V.cells,V.stays,Orc.nothing])
  exact RetV.same rfl
theorem is7_c (s w : List UInt8) (hs : s.length ≤ 1000000) (xs : List Shp) (he : readR s = (toldL xs, 0, 0)) (hok : okSs xs) (hF : Fine (toldL xs)) (hcs : costs (toldL xs) ≤ 800000000) (ht : txtL [10] xs = w) : PFun Tryd.prog 50 [.str s, .str w] (.bool true) := fun σ => by
  refine Contract.of_runs Tryd.func50 e50 k50 (by simp [c50]) ?_
  refine Runs.mix 5 ?_
  (refine Runs.of_step Orc.nothing 300 ?_; simp -implicitDefEqProofs only [BB,seval,← decide_not,okind,vpre,vpure,intBin,intPre,strBin,strPre,popTo,argSlots,fldV,fldAV,subCells,idxVV,idxAAV,idxSV,sliceV,sliceSV,boundV,szIs,storeOp,storeS,setRowV,eff,extV,buildV,splice,eqSV,fitsL,eqCells,eqCell,minmaxV,capV,binBV,nilCheckV,bytesV,V.cells,V.stays,Orc.nothing,c50])
  refine Runs.pcall rfl rfl rfl (canonOk_c s hs xs he hok hF hcs _) ?_
  rw [ht]
  (refine Runs.of_step Orc.nothing 300 ?_; simp -implicitDefEqProofs only [BB,seval,← decide_not,okind,vpre,vpure,intBin,intPre,strBin,strPre,popTo,argSlots,fldV,fldAV,subCells,idxVV,idxAAV,idxSV,sliceV,sliceSV,boundV,szIs,storeOp,storeS,setRowV,eff,extV,buildV,splice,eqSV,fitsL,eqCells,eqCell,minmaxV,capV,binBV,nilCheckV,bytesV,V.cells,V.stays,Orc.nothing])
  exact RetV.same (by simp)
def exS : List Int := [5, 0, 0, 0, 0, 2, 2, 0, 2, 0, 0, 0]
def exX1 : List Shp := [.block exS [.text [10, 2, 30, 40]], .box 3 4]
def exX2 : List Shp := [.block [0, 0, 0, 0, 0, 2, 3, 0, 0, 0, 0, 0] [.float 1 2 2]]
theorem okL_of {s : List Int} (hl : s.length = 12) (h : (List.range 12).all (fun k => decide (loK k ≤ s.getD k 0) && decide (s.getD k 0 ≤ hiK k)) = true) : okL s := by
  intro k v hv
  have hk : k < 12 := by rw [← hl]; exact (List.getElem?_eq_some_iff.1 hv).1
  have := List.all_eq_true.1 h k (List.mem_range.2 hk)
  rw [List.getD_eq_getElem?_getD, hv] at this
  simpa using this
theorem exX1_ok : okSs exX1 :=
  ⟨⟨⟨rfl, okL_of rfl (by decide)⟩, ⟨⟨10, 2, 30, [40], rfl, by decide, by decide, by decide, by decide⟩, trivial⟩⟩, ⟨⟨by decide, by decide⟩, trivial⟩⟩
theorem exX2_ok : okSs exX2 :=
  ⟨⟨⟨rfl, okL_of rfl (by decide)⟩, ⟨⟨by decide, by decide, .inr rfl⟩, trivial⟩⟩, trivial⟩
theorem awake7_c : PFun Tryd.prog 27 [] (.bool true) := fun σ => by
  refine Contract.of_runs Tryd.func27 e27 k27 (by simp [c27]) ?_
  refine Runs.mix 5 ?_
  (refine Runs.of_step Orc.nothing 300 ?_; simp -implicitDefEqProofs only [BB,seval,← decide_not,okind,vpre,vpure,intBin,intPre,strBin,strPre,popTo,argSlots,fldV,fldAV,subCells,idxVV,idxAAV,idxSV,sliceV,sliceSV,boundV,szIs,storeOp,storeS,setRowV,eff,extV,buildV,splice,eqSV,fitsL,eqCells,eqCell,minmaxV,capV,binBV,nilCheckV,bytesV,V.cells,V.stays,Orc.nothing,c27])
  have h0 : (readR [91, 66, 50, 32, 109, 32, 53, 32, 40, 49, 48, 32, 50, 32, 51, 48, 32, 52, 48, 41, 32, 35, 32, 115, 111]).2.2 = 1 := by rw [← readF_eq]; kernel_rfl
  have h1 : readR [91, 66, 50, 32, 109, 32, 53, 32, 40, 49, 48, 32, 50, 32, 51, 48, 32, 52, 48, 41, 93, 32, 123, 32, 51, 32, 32, 52, 32, 125] = (toldL exX1, 0, 0) := by rw [← readF_eq]; kernel_rfl
  have h2 : readR [91, 111, 50, 32, 119, 51, 32, 109, 48, 32, 60, 82, 32, 49, 32, 50, 62, 93] = (toldL exX2, 0, 0) := by rw [← readF_eq]; kernel_rfl
  have h3 : readR [] = (toldL [], 0, 0) := by rw [← readF_eq]; kernel_rfl
  have t1 : txtL [10] exX1 = [91, 109, 53, 66, 50, 40, 49, 48, 32, 50, 32, 51, 48, 32, 52, 48, 41, 93, 10, 123, 51, 32, 52, 125, 10] := by kernel_rfl
  have t2 : txtL [10] exX2 = [91, 119, 51, 60, 82, 49, 32, 50, 62, 93, 10] := by kernel_rfl
  have c0 := canonBad_c [91, 66, 50, 32, 109, 32, 53, 32, 40, 49, 48, 32, 50, 32, 51, 48, 32, 52, 48, 41, 32, 35, 32, 115, 111] (by simp) (by rw [h0]; decide)
  rw [h0] at c0
  have f1 : Fine (toldL exX1) := ⟨by decide, by decide⟩
  have f2 : Fine (toldL exX2) := ⟨by decide, by decide⟩
  refine Runs.pcall rfl rfl rfl (c0 _) ?_
  (refine Runs.of_step Orc.nothing 300 ?_; simp -implicitDefEqProofs only [BB,seval,← decide_not,okind,vpre,vpure,intBin,intPre,strBin,strPre,popTo,argSlots,fldV,fldAV,subCells,idxVV,idxAAV,idxSV,sliceV,sliceSV,boundV,szIs,storeOp,storeS,setRowV,eff,extV,buildV,splice,eqSV,fitsL,eqCells,eqCell,minmaxV,capV,binBV,nilCheckV,bytesV,V.cells,V.stays,Orc.nothing])
  refine Runs.pcall rfl rfl rfl (is7_c _ _ (by simp) exX1 h1 exX1_ok f1 (by decide) t1 _) ?_
  (refine Runs.of_step Orc.nothing 300 ?_; simp -implicitDefEqProofs only [BB,seval,← decide_not,okind,vpre,vpure,intBin,intPre,strBin,strPre,popTo,argSlots,fldV,fldAV,subCells,idxVV,idxAAV,idxSV,sliceV,sliceSV,boundV,szIs,storeOp,storeS,setRowV,eff,extV,buildV,splice,eqSV,fitsL,eqCells,eqCell,minmaxV,capV,binBV,nilCheckV,bytesV,V.cells,V.stays,Orc.nothing])
  refine Runs.pcall rfl rfl rfl (is7_c _ _ (by simp) exX2 h2 exX2_ok f2 (by decide) t2 _) ?_
  (refine Runs.of_step Orc.nothing 300 ?_; simp -implicitDefEqProofs only [BB,seval,← decide_not,okind,vpre,vpure,intBin,intPre,strBin,strPre,popTo,argSlots,fldV,fldAV,subCells,idxVV,idxAAV,idxSV,sliceV,sliceSV,boundV,szIs,storeOp,storeS,setRowV,eff,extV,buildV,splice,eqSV,fitsL,eqCells,eqCell,minmaxV,capV,binBV,nilCheckV,bytesV,V.cells,V.stays,Orc.nothing])
  refine Runs.pcall rfl rfl rfl (is7_c _ _ (by simp) [] h3 trivial ⟨by simp [toldL], by simp [toldL]⟩ (by simp [toldL, costs]) rfl _) ?_
  (refine Runs.of_step Orc.nothing 300 ?_; simp -implicitDefEqProofs only [BB,seval,← decide_not,okind,vpre,vpure,intBin,intPre,strBin,strPre,popTo,argSlots,fldV,fldAV,subCells,idxVV,idxAAV,idxSV,sliceV,sliceSV,boundV,szIs,storeOp,storeS,setRowV,eff,extV,buildV,splice,eqSV,fitsL,eqCells,eqCell,minmaxV,capV,binBV,nilCheckV,bytesV,V.cells,V.stays,Orc.nothing])
  exact RetV.same rfl
end Go.Vc
namespace Go.Vc
open Go.Proofs
theorem costs_le {n w : Nat} : ∀ (l : List Nd), (∀ x ∈ l, x.words.length ≤ w) → costs l ≤ l.length * (400 + 14 * w)
  | [], _ => by simp [costs]
  | x :: l, h => by
    have h1 := costs_le (n := n) l (fun y hy => h y (by simp [hy]))
    have h2 := h x (by simp)
    have h3 : (l.length + 1) * (400 + 14 * w) = l.length * (400 + 14 * w) + (400 + 14 * w) := by rw [Nat.add_mul, Nat.one_mul]
    simp only [costs,costN,List.length_cons]
    rw [h3]; omega
end Go.Vc
namespace Go.Vc
def sumW : List Nd → Nat
  | [] => 0
  | x :: l => x.words.length + sumW l
theorem sumW_app (a b : List Nd) : sumW (a ++ b) = sumW a + sumW b := by
  induction a with
  | nil => simp [sumW]
  | cons x a ih => simp [sumW, ih]; omega
theorem text_words2 {l : List Tk} (h : signB 40 l = true) : ((textR l).1.drop 2).length + (textR l).2.1.length ≤ l.length := by
  unfold textR
  simp only
  obtain ⟨e, hl⟩ := takeR_yes h
  rw [e]
  simp only
  have h1 := count_len 1 MX l.tail false
  generalize countR 1 MX l.tail false = c1 at *
  have h2 := count_len 0 MX c1.2.1 c1.2.2
  generalize countR 0 MX c1.2.1 c1.2.2 = c2 at *
  have h3 := count_len 1 MX c2.2.1 c2.2.2
  generalize countR 1 MX c2.2.1 c2.2.2 = c3 at *
  have h4 := nums_len c3.2.1
  have h5 := takeR_len 41 (numsR c3.2.1).2 c3.2.2
  simp only [List.cons_append,List.nil_append,List.drop_succ_cons,List.drop_zero,List.length_cons]
  omega
theorem told_sum : ∀ (f : Nat) (l : List Tk) (w : Bool), sumW (toldL (nodesT f l w).1) + (nodesT f l w).2.1.length ≤ l.length
  | f, l, true => by simp [nodesT, toldL, sumW]
  | 0, l, false => by simp [nodesT, nodesR, toldL, sumW]
  | f + 1, l, false => by
    rw [nodesT_false]
    rcases sign_cases l with q | ⟨q1, q2⟩ | ⟨q1, q2, q3⟩ | ⟨q1, q2, q3, q4⟩ | ⟨q1, q2, q3, q4⟩
    · rw [nodesR_block q]
      have h0 := (takeR_yes q).2
      have h1 := (attrsT_len (fun _ => true) plainS l.tail false).2
      generalize attrsT (fun _ => true) plainS l.tail false = a at *
      have i1 := told_sum f a.2.1 a.2.2
      generalize nodesT f a.2.1 a.2.2 = n at *
      have h3 := takeR_len 93 n.2.1 n.2.2
      generalize takeR 93 n.2.1 n.2.2 = c at *
      have i2 := told_sum f c.1 c.2
      rw [toldL, toldS, List.cons_append, sumW, sumW_app]
      simp only [ndS,List.length_nil]
      omega
    · rw [nodesR_text q1 q2]
      have h1 := text_words2 q2
      generalize textR l = a at *
      have i2 := told_sum f a.2.1 a.2.2
      rw [toldL, toldS, List.cons_append, List.nil_append, sumW]
      simp only [ndS]
      omega
    · rw [nodesR_box q1 q2 q3]
      have h0 := (takeR_yes q3).2
      have h1 := boxR_len 125 l.tail false
      generalize boxR 125 l.tail false = a at *
      have i2 := told_sum f a.2.2.1 a.2.2.2
      rw [toldL, toldS, List.cons_append, List.nil_append, sumW]
      simp only [ndS,List.length_nil]
      omega
    · rw [nodesR_float q1 q2 q3 q4]
      have h0 := floatR_len q4
      have hf : ∃ w h d, (floatR l false).1 = .float w h d := ⟨_, _, _, rfl⟩
      obtain ⟨w, h, d, hf⟩ := hf
      rw [hf]
      generalize floatR l false = a at *
      have i2 := told_sum f a.2.1 a.2.2
      rw [toldL, toldS, List.cons_append, List.nil_append, sumW]
      simp only [ndS,List.length_nil]
      omega
    · rw [nodesR_none q1 q2 q3 q4]
      simp [toldL, sumW]
theorem readR_sum {s : List UInt8} {n : Nat} (hs : s.length ≤ n) : sumW (readR s).1 ≤ n := by
  by_cases h : (readR s).2.2 = 0
  · obtain ⟨_, l, hl, hn, ht⟩ := readR_ok h
    have hll := ofI_len hl
    have hx := told_sum l.length l false
    rw [nodesT_false] at hx
    rw [ht]
    omega
  · rw [(readR_bad h).1]
    simp [sumW]
mutual
theorem txtS_len2 : ∀ x : Shp, okS x → (txtS x).length + 1 ≤ 180 * (toldS x).length + 14 * sumW (toldS x)
  | .box w h, hx => by
    have h1 := (dg_len (inN_of hx.1)).1
    have h2 := (dg_len (inN_of hx.2)).1
    simp [txtS, joinX, toldS, sumW, ndS]; omega
  | .float w h d, hx => by
    have h1 := (dg_len (inN_of hx.1)).1
    have h2 := (dg_len (inN_of hx.2.1)).1
    simp [txtS, joinX, toldS, sumW, ndS]; omega
  | .text ns, hx => by
    obtain ⟨h1, h2⟩ := okT_in hx
    have h3 := joinX_len h1
    simp [txtS, toldS, sumW, ndS]; omega
  | .block s inner, hx => by
    have h1 := txtL_len2 inner hx.2 [] (by simp)
    have h2 := attX_len (okL_in hx.1.2) 12 0
    simp [txtS, toldS, sumW, ndS]; omega
theorem txtL_len2 : ∀ xs : List Shp, okSs xs → ∀ e : List UInt8, e.length ≤ 1 → (txtL e xs).length ≤ 180 * (toldL xs).length + 14 * sumW (toldL xs)
  | [], _, _, _ => by simp [txtL]
  | x :: l, hx, e, he => by
    have h1 := txtS_len2 x hx.1
    have h2 := txtL_len2 l hx.2 e he
    simp only [txtL,toldL,sumW_app,List.length_append]; omega
end
end Go.Vc
namespace Go.Vc
def adj (p b : UInt8) : Prop := b ≠ 9 ∧ b ≠ 35 ∧ ¬ (b = 32 ∧ p = 32) ∧ ¬ (b = 10 ∧ p = 10)
def clean : UInt8 → List UInt8 → Prop
  | _, [] => True
  | p, b :: l => adj p b ∧ clean b l
def solid (b : UInt8) : Prop := b ≠ 9 ∧ b ≠ 35 ∧ b ≠ 32 ∧ b ≠ 10
theorem solid_adj {b : UInt8} (h : solid b) (p : UInt8) : adj p b := ⟨h.1, h.2.1, fun e => h.2.2.1 e.1, fun e => h.2.2.2 e.1⟩
theorem clean_cons {b : UInt8} {w : List UInt8} (h : solid b) (hw : ∀ q, solid q → clean q w) (p : UInt8) : clean p (b :: w) := ⟨solid_adj h p, hw b h⟩
theorem clean_all : ∀ (d w : List UInt8), d ≠ [] → (∀ b ∈ d, solid b) → (∀ q, solid q → clean q w) → ∀ p, clean p (d ++ w)
  | [], _, h, _, _, _ => absurd rfl h
  | [b], w, _, hs, hw, p => clean_cons (hs b (by simp)) hw p
  | b :: c :: d, w, _, hs, hw, p => clean_cons (hs b (by simp)) (fun q _ => clean_all (c :: d) w (by simp) (fun x hx => hs x (by simp at hx ⊢; exact .inr hx)) hw q) p
theorem solid_dig {b : UInt8} (h : 48 ≤ b.toNat ∧ b.toNat ≤ 57) : solid b := by
  refine ⟨?_, ?_, ?_, ?_⟩ <;> (rintro rfl; revert h; decide)
theorem clean_dg {n : Int} {w : List UInt8} (hw : ∀ q, solid q → clean q w) (p : UInt8) : clean p (dg n ++ w) := clean_all _ _ (dec_ne _) (fun b hb => solid_dig (dec_mem _ b hb)) hw p
theorem clean_join {w : List UInt8} (hw : ∀ p, clean p w) : ∀ (ns : List Int) (p : UInt8), clean p (joinX ns ++ w)
  | [], p => hw p
  | [n], p => clean_dg (fun q _ => hw q) p
  | n :: m :: l, p => by
    rw [joinX, List.append_assoc]
    refine clean_dg (fun q hq => ?_) p
    exact ⟨⟨by decide, by decide, fun e => hq.2.2.1 e.2, fun e => (by cases e.1)⟩, clean_join hw (m :: l) 32⟩
theorem solid_letter {j : Nat} (hj : j < 12) : solid (lettersB.getD j 0) := by
  match j, hj with
  | 0, _ | 1, _ | 2, _ | 3, _ | 4, _ | 5, _ | 6, _ | 7, _ | 8, _ | 9, _ | 10, _ | 11, _ => refine ⟨?_, ?_, ?_, ?_⟩ <;> decide
theorem clean_att {s : List Int} {w : List UInt8} (hw : ∀ p, clean p w) : ∀ (m j : Nat), j + m = 12 → ∀ p, clean p (attX s m j ++ w)
  | 0, _, _, p => hw p
  | m + 1, j, hj, p => by
    rw [attX]
    have ih := clean_att (s := s) hw m (j + 1) (by omega)
    split
    · exact ih p
    · rw [List.append_assoc]
      exact clean_cons (solid_letter (by omega)) (fun q _ => clean_dg (fun q _ => ih q) q) p
theorem solid_br {b : UInt8} (h : b = 123 ∨ b = 125 ∨ b = 91 ∨ b = 93 ∨ b = 40 ∨ b = 41 ∨ b = 60 ∨ b = 62 ∨ b = 76 ∨ b = 82) : solid b := by
  rcases h with rfl | rfl | rfl | rfl | rfl | rfl | rfl | rfl | rfl | rfl <;> (refine ⟨?_, ?_, ?_, ?_⟩ <;> decide)
mutual
theorem clean_S : ∀ (x : Shp) (w : List UInt8), (∀ q, solid q → clean q w) → ∀ p, clean p (txtS x ++ w)
  | .box a h, w, hw, p => by
    rw [txtS]
    simp only [List.cons_append,List.append_assoc,List.nil_append]
    exact clean_cons (solid_br (by simp)) (fun q _ => clean_join (fun q => clean_cons (solid_br (by simp)) hw q) _ q) p
  | .float a h d, w, hw, p => by
    rw [txtS]
    simp only [List.cons_append,List.append_assoc,List.nil_append]
    exact clean_cons (solid_br (by simp)) (fun q _ => clean_cons (solid_br (by split <;> simp)) (fun q _ => clean_join (fun q => clean_cons (solid_br (by simp)) hw q) _ q) q) p
  | .text ns, w, hw, p => by
    rw [txtS]
    simp only [List.cons_append,List.append_assoc,List.nil_append]
    exact clean_cons (solid_br (by simp)) (fun q _ => clean_join (fun q => clean_cons (solid_br (by simp)) hw q) _ q) p
  | .block s inner, w, hw, p => by
    rw [txtS]
    simp only [List.cons_append,List.append_assoc,List.nil_append]
    exact clean_cons (solid_br (by simp)) (fun q _ => clean_att (fun q => clean_L0 inner _ (fun q => clean_cons (solid_br (by simp)) hw q) q) 12 0 (by omega) q) p
theorem clean_L0 : ∀ (xs : List Shp) (w : List UInt8), (∀ q, clean q w) → ∀ p, clean p (txtL [] xs ++ w)
  | [], w, hw, p => by rw [txtL]; exact hw p
  | x :: l, w, hw, p => by
    rw [txtL]
    simp only [List.append_assoc,List.nil_append]
    exact clean_S x _ (fun q _ => clean_L0 l w hw q) p
end
theorem clean_L : ∀ (xs : List Shp) (p : UInt8), clean p (txtL [10] xs)
  | [], p => by rw [txtL]; trivial
  | x :: l, p => by
    rw [txtL]
    refine clean_S x _ (fun q hq => ?_) p
    exact ⟨⟨by decide, by decide, fun e => (by cases e.1), fun e => hq.2.2.2 e.2⟩, clean_L l 10⟩
theorem clean_get : ∀ (l : List UInt8) (p : UInt8), clean p l → ∀ (i : Nat) (h : i + 1 < l.length), adj (l[i]'(by omega)) l[i + 1]
  | [], _, _, _, h => by simp at h
  | [b], _, _, _, h => by simp at h
  | b :: c :: l, p, hc, 0, h => hc.2.1
  | b :: c :: l, p, hc, i + 1, h => clean_get (c :: l) b hc.2 i (by simp at h ⊢; omega)
end Go.Vc
namespace Go.Vc
open Go.Proofs
theorem script_small {s : List UInt8} (hs : s.length ≤ 3000) {xs : List Shp} (hx : toldL xs = (readR s).1) (hok : okSs xs) : Fine (toldL xs) ∧ costs (toldL xs) ≤ 800000000 ∧ (txtL [10] xs).length ≤ 1000000 := by
  obtain ⟨h1, h2⟩ := readR_fine hs
  have h3 := readR_sum hs
  rw [← hx] at h1 h2 h3
  have h4 := costs_le (n := 0) _ h2
  have h5 : (toldL xs).length * (400 + 14 * 3000) ≤ 3000 * (400 + 14 * 3000) := Nat.mul_le_mul_right _ h1
  have h6 := txtL_len2 xs hok [10] (by simp)
  exact ⟨⟨by omega, fun x hm => by have := h2 x hm; omega⟩, by omega, by omega⟩
theorem idx_at {a : List UInt8} {i : Nat} (h : i < a.length) : idxSV (.str a) (vI i) = some (.int .u8 a[i].toNat) := by
  simp only [idxSV]
  rw [if_pos (by omega)]
  simp [h]
theorem u8_ne {c : UInt8} {k : Nat} (hk : k < 256) (h : c ≠ UInt8.ofNat k) : (((c.toNat : Nat) : Int) = (k : Int)) = False := by
  refine eq_false fun e => h ?_
  have : c.toNat = k := by omega
  rw [← this]; simp
set_option maxRecDepth 100000 in
theorem canonOnce_c (s : List UInt8) : PFun Tryd.prog 10 [.str s] (.bool true) := fun σ => by
  refine Contract.of_runs Tryd.func10 e10 k10 (by simp [c10]) ?_
  refine Runs.mix 16 ?_
  by_cases hs : s.length > 3000
  · have q1 : ((s.length : Int) > 3000) = True := by simp; omega
    (refine Runs.of_step Orc.nothing 300 ?_; simp -implicitDefEqProofs only [BB,seval,← decide_not,okind,vpre,vpure,intBin,intPre,strBin,strPre,popTo,argSlots,fldV,fldAV,subCells,idxVV,idxAAV,idxSV,sliceV,sliceSV,boundV,szIs,storeOp,storeS,setRowV,eff,extV,buildV,splice,eqSV,fitsL,eqCells,eqCell,minmaxV,capV,binBV,nilCheckV,bytesV,V.cells,V.stays,Orc.nothing,c10,q1])
    refine Runs.pcall rfl rfl rfl (awake7_c _) ?_
    (refine Runs.of_step Orc.nothing 300 ?_; simp -implicitDefEqProofs only [BB,seval,← decide_not,okind,vpre,vpure,intBin,intPre,strBin,strPre,popTo,argSlots,fldV,fldAV,subCells,idxVV,idxAAV,idxSV,sliceV,sliceSV,boundV,szIs,storeOp,storeS,setRowV,eff,extV,buildV,splice,eqSV,fitsL,eqCells,eqCell,minmaxV,capV,binBV,nilCheckV,bytesV,V.cells,V.stays,Orc.nothing])
    exact RetV.same rfl
  · have q1 : ((s.length : Int) > 3000) = False := by simp; omega
    have hs' : s.length ≤ 3000 := by omega
    (refine Runs.of_step Orc.nothing 300 ?_; simp -implicitDefEqProofs only [BB,seval,← decide_not,okind,vpre,vpure,intBin,intPre,strBin,strPre,popTo,argSlots,fldV,fldAV,subCells,idxVV,idxAAV,idxSV,sliceV,sliceSV,boundV,szIs,storeOp,storeS,setRowV,eff,extV,buildV,splice,eqSV,fitsL,eqCells,eqCell,minmaxV,capV,binBV,nilCheckV,bytesV,V.cells,V.stays,Orc.nothing,c10,q1])
    by_cases he : (readR s).2.2 = 0
    · obtain ⟨xs, hx, hok⟩ := shapes_of (readR_isB he)
      have hr : readR s = (toldL xs, 0, 0) := by
        rw [hx]
        have := (readR_ok he).1
        exact Prod.ext rfl (Prod.ext this he)
      obtain ⟨fx, cx, tx⟩ := script_small hs' hx hok
      refine Runs.pcall rfl rfl rfl (canonOk_c s (by omega) xs hr hok fx cx _) ?_
      (refine Runs.of_step Orc.nothing 300 ?_; simp -implicitDefEqProofs only [BB,seval,← decide_not,okind,vpre,vpure,intBin,intPre,strBin,strPre,popTo,argSlots,fldV,fldAV,subCells,idxVV,idxAAV,idxSV,sliceV,sliceSV,boundV,szIs,storeOp,storeS,setRowV,eff,extV,buildV,splice,eqSV,fitsL,eqCells,eqCell,minmaxV,capV,binBV,nilCheckV,bytesV,V.cells,V.stays,Orc.nothing])
      refine Runs.pcall rfl rfl rfl (readOf_c s (by omega) _) ?_
      rw [hr]
      (refine Runs.of_step Orc.nothing 300 ?_; simp -implicitDefEqProofs only [BB,seval,← decide_not,okind,vpre,vpure,intBin,intPre,strBin,strPre,popTo,argSlots,fldV,fldAV,subCells,idxVV,idxAAV,idxSV,sliceV,sliceSV,boundV,szIs,storeOp,storeS,setRowV,eff,extV,buildV,splice,eqSV,fitsL,eqCells,eqCell,minmaxV,capV,binBV,nilCheckV,bytesV,V.cells,V.stays,Orc.nothing,readV])
      have ha := read_txt hok
      have hcl := clean_get _ 0 (clean_L xs 0)
      refine Runs.pcall rfl rfl rfl (canonOk_c _ tx xs ha hok fx cx _) ?_
      (refine Runs.of_step Orc.nothing 300 ?_; simp -implicitDefEqProofs only [BB,seval,← decide_not,okind,vpre,vpure,intBin,intPre,strBin,strPre,popTo,argSlots,fldV,fldAV,subCells,idxVV,idxAAV,idxSV,sliceV,sliceSV,boundV,szIs,storeOp,storeS,setRowV,eff,extV,buildV,splice,eqSV,fitsL,eqCells,eqCell,minmaxV,capV,binBV,nilCheckV,bytesV,V.cells,V.stays,Orc.nothing])
      refine Runs.pcall rfl rfl rfl (readOf_c _ tx _) ?_
      rw [ha]
      generalize txtL [10] xs = a at *
      generalize toldL xs = l at *
      (refine Runs.of_step Orc.nothing 300 ?_; simp -implicitDefEqProofs only [BB,seval,← decide_not,okind,vpre,vpure,intBin,intPre,strBin,strPre,popTo,argSlots,fldV,fldAV,subCells,idxVV,idxAAV,idxSV,sliceV,sliceSV,boundV,szIs,storeOp,storeS,setRowV,eff,extV,buildV,splice,eqSV,fitsL,eqCells,eqCell,minmaxV,capV,binBV,nilCheckV,bytesV,V.cells,V.stays,Orc.nothing,readV])
      refine Runs.loop (fun m st => ∃ i : Nat, 1 ≤ i ∧ m = a.length - i ∧ st.σ = σ ∧ st.s 3 = .str a ∧ st.s 6 = encNs l ∧ st.s 9 = .str a ∧ st.s 11 = vI 0 ∧ st.s 12 = encNs l ∧ st.s 14 = vI 0 ∧ st.s 15 = vI i) (a.length - 1) ?_ ?_
      · exact ⟨1, by omega, rfl, rfl, rfl, rfl, rfl, rfl, rfl, rfl, rfl⟩
      rintro m ⟨S, σ'⟩ ⟨i, hi, rfl, hσ, h3, h6, h9, h11, h12, h14, h15⟩
      simp only at hσ h3 h6 h9 h11 h12 h14 h15
      subst hσ
      refine Runs.mix 16 ?_
      by_cases hlt : i < a.length
      · have hlt' : ((i : Int) < (a.length : Int)) = True := by simp; omega
        have r1 : inR .i64 ((i : Int) + 1) := inR_i64 (by omega) (by omega)
        have r0 : inR .i64 ((i : Int) - 1) := inR_i64 (by omega) (by omega)
        have ix := idx_at hlt
        have ix0 : idxSV (.str a) (.int .i64 ((i : Int) - 1)) = some (.int .u8 (a[i - 1]'(by omega)).toNat) := by
          rw [← idx_at (show i - 1 < a.length by omega), show ((i - 1 : Nat) : Int) = (i : Int) - 1 by omega]
        obtain ⟨g1, g2, g3, g4⟩ := hcl (i - 1) (by omega)
        simp only [show i - 1 + 1 = i by omega] at g1 g2 g3 g4
        generalize a[i] = c at *
        generalize a[i - 1] = p at *
        have e9 : ((c.toNat : Int) = 9) = False := u8_ne (k := 9) (by omega) g1
        have e35 : ((c.toNat : Int) = 35) = False := u8_ne (k := 35) (by omega) g2
        by_cases c32 : c = 32
        · subst c32
          have p32 : ((p.toNat : Int) = 32) = False := u8_ne (c := p) (k := 32) (by omega) (fun e => g3 ⟨rfl, e⟩)
          (refine Runs.of_step Orc.nothing 300 ?_; simp -implicitDefEqProofs only [BB,seval,← decide_not,okind,vpre,vpure,intBin,intPre,strBin,strPre,popTo,argSlots,fldV,fldAV,subCells,idxVV,idxAAV,sliceV,sliceSV,boundV,szIs,storeOp,storeS,setRowV,eff,extV,buildV,splice,eqSV,fitsL,eqCells,eqCell,minmaxV,capV,binBV,nilCheckV,bytesV,V.cells,V.stays,Orc.nothing,h3,h6,h9,h11,h12,h14,h15,hlt',ix,ix0,r0,r1,p32])
          exact ⟨_, by omega, i + 1, by omega, rfl, by simp⟩
        · have e32 : ((c.toNat : Int) = 32) = False := u8_ne (k := 32) (by omega) c32
          by_cases c10 : c = 10
          · subst c10
            have p10 : ((p.toNat : Int) = 10) = False := u8_ne (c := p) (k := 10) (by omega) (fun e => g4 ⟨rfl, e⟩)
            (refine Runs.of_step Orc.nothing 300 ?_; simp -implicitDefEqProofs only [BB,seval,← decide_not,okind,vpre,vpure,intBin,intPre,strBin,strPre,popTo,argSlots,fldV,fldAV,subCells,idxVV,idxAAV,sliceV,sliceSV,boundV,szIs,storeOp,storeS,setRowV,eff,extV,buildV,splice,eqSV,fitsL,eqCells,eqCell,minmaxV,capV,binBV,nilCheckV,bytesV,V.cells,V.stays,Orc.nothing,h3,h6,h9,h11,h12,h14,h15,hlt',ix,ix0,r0,r1,p10])
            exact ⟨_, by omega, i + 1, by omega, rfl, by simp⟩
          · have e10 : ((c.toNat : Int) = 10) = False := u8_ne (k := 10) (by omega) c10
            (refine Runs.of_step Orc.nothing 300 ?_; simp -implicitDefEqProofs only [BB,seval,← decide_not,okind,vpre,vpure,intBin,intPre,strBin,strPre,popTo,argSlots,fldV,fldAV,subCells,idxVV,idxAAV,sliceV,sliceSV,boundV,szIs,storeOp,storeS,setRowV,eff,extV,buildV,splice,eqSV,fitsL,eqCells,eqCell,minmaxV,capV,binBV,nilCheckV,bytesV,V.cells,V.stays,Orc.nothing,h3,h6,h9,h11,h12,h14,h15,hlt',ix,ix0,r0,r1,e9,e35,e32,e10])
            exact ⟨_, by omega, i + 1, by omega, rfl, by simp⟩
      · have hlt' : ((i : Int) < (a.length : Int)) = False := by simp; omega
        (refine Runs.of_step Orc.nothing 300 ?_; simp -implicitDefEqProofs only [BB,seval,← decide_not,okind,vpre,vpure,intBin,intPre,strBin,strPre,popTo,argSlots,fldV,fldAV,subCells,idxVV,idxAAV,idxSV,sliceV,sliceSV,boundV,szIs,storeOp,storeS,setRowV,eff,extV,buildV,splice,eqSV,fitsL,eqCells,eqCell,minmaxV,capV,binBV,nilCheckV,bytesV,V.cells,V.stays,Orc.nothing,h3,h6,h9,h11,h12,h14,h15,hlt'])
        refine Runs.pcall rfl rfl rfl (same9_c _ _ fx fx _) ?_
        rw [decide_eq_true rfl]
        (refine Runs.of_step Orc.nothing 300 ?_; simp -implicitDefEqProofs only [BB,seval,← decide_not,okind,vpre,vpure,intBin,intPre,strBin,strPre,popTo,argSlots,fldV,fldAV,subCells,idxVV,idxAAV,idxSV,sliceV,sliceSV,boundV,szIs,storeOp,storeS,setRowV,eff,extV,buildV,splice,eqSV,fitsL,eqCells,eqCell,minmaxV,capV,binBV,nilCheckV,bytesV,V.cells,V.stays,Orc.nothing])
        refine Runs.pcall rfl rfl rfl (awake7_c _) ?_
        (refine Runs.of_step Orc.nothing 300 ?_; simp -implicitDefEqProofs only [BB,seval,← decide_not,okind,vpre,vpure,intBin,intPre,strBin,strPre,popTo,argSlots,fldV,fldAV,subCells,idxVV,idxAAV,idxSV,sliceV,sliceSV,boundV,szIs,storeOp,storeS,setRowV,eff,extV,buildV,splice,eqSV,fitsL,eqCells,eqCell,minmaxV,capV,binBV,nilCheckV,bytesV,V.cells,V.stays,Orc.nothing])
        exact RetV.same rfl
    · refine Runs.pcall rfl rfl rfl (canonBad_c s (by omega) he _) ?_
      (refine Runs.of_step Orc.nothing 300 ?_; simp -implicitDefEqProofs only [BB,seval,← decide_not,okind,vpre,vpure,intBin,intPre,strBin,strPre,popTo,argSlots,fldV,fldAV,subCells,idxVV,idxAAV,idxSV,sliceV,sliceSV,boundV,szIs,storeOp,storeS,setRowV,eff,extV,buildV,splice,eqSV,fitsL,eqCells,eqCell,minmaxV,capV,binBV,nilCheckV,bytesV,V.cells,V.stays,Orc.nothing])
      refine Runs.pcall rfl rfl rfl (readOf_c s (by omega) _) ?_
      have q : ((readR s).2.2 ≠ 0) = True := eq_true he
      (refine Runs.of_step Orc.nothing 300 ?_; simp -implicitDefEqProofs only [BB,seval,← decide_not,okind,vpre,vpure,intBin,intPre,strBin,strPre,popTo,argSlots,fldV,fldAV,subCells,idxVV,idxAAV,idxSV,sliceV,sliceSV,boundV,szIs,storeOp,storeS,setRowV,eff,extV,buildV,splice,eqSV,fitsL,eqCells,eqCell,minmaxV,capV,binBV,nilCheckV,bytesV,V.cells,V.stays,Orc.nothing,readV,ne_self_int,q])
      refine Runs.pcall rfl rfl rfl (awake7_c _) ?_
      (refine Runs.of_step Orc.nothing 300 ?_; simp -implicitDefEqProofs only [BB,seval,← decide_not,okind,vpre,vpure,intBin,intPre,strBin,strPre,popTo,argSlots,fldV,fldAV,subCells,idxVV,idxAAV,idxSV,sliceV,sliceSV,boundV,szIs,storeOp,storeS,setRowV,eff,extV,buildV,splice,eqSV,fitsL,eqCells,eqCell,minmaxV,capV,binBV,nilCheckV,bytesV,V.cells,V.stays,Orc.nothing])
      exact RetV.same rfl
end Go.Vc
