/- Part 10 of the library of this proof. -/
import Derived.Test.YtleahcdojjeinaaDoorW9
import Derived.Lib.ItoaNum
set_option linter.all false
namespace Go.Vc
open Go.Proofs
def styL : List Int → Sty
  | [a, b, c, d, e, f, g, h, i, j, k, l] => ⟨a, b, c, d, e, f, g, h, i, j, k, l⟩
  | _ => Sty.zero
theorem styL_cells {s : List Int} (h : s.length = 12) : s.map vI = (styL s).cells := by
  match s, h with
  | [a, b, c, d, e, f, g, h, i, j, k, l], _ => rfl
def ndS : Shp → Nd
  | .box w h => ⟨3, 1, Sty.zero, 0, 0, [], 0, w, h⟩
  | .block s _ => ⟨1, 1, styL s, 0, 0, [], 0, 0, 0⟩
  | .text ns => ⟨2, 1, Sty.zero, ns.getD 0 0, ns.getD 1 0, ns.drop 2, 0, 0, 0⟩
  | .float w h d => ⟨4, 1, Sty.zero, 0, 0, [], d, w, h⟩
theorem wk_nd {σ σ' : Store} (h : SubStore σ' σ) (k z a b c d w v : Int) (s : Sty) : Wk σ σ' (.agg [vI k, vI z, vI s.top, vI s.bottom, vI s.padTop, vI s.padBottom, vI s.inset, vI s.orphans, vI s.widows, vI s.head, vI s.before, vI s.after, vI s.inside, vI s.clear, vI a, vI b, .nils, vI d, vI w, vI v])
    (encN ⟨k, z, s, a, b, [], d, w, v⟩) := by
  simp only [encN,Nd.cells]
  refine Wk.agg ?_
  simp only [WkL]
  exact ⟨Wk.refl h _, Wk.refl h _, Wk.refl h _, Wk.refl h _, Wk.refl h _, Wk.refl h _, Wk.refl h _, Wk.refl h _, Wk.refl h _, Wk.refl h _, Wk.refl h _, Wk.refl h _, Wk.refl h _, Wk.refl h _, Wk.refl h _, Wk.refl h _, Wk.nils 1, Wk.refl h _, Wk.refl h _, Wk.refl h _, trivial⟩
theorem retN {σ σ1 σ2 : Store} {id2 : Nat} {o : Ob} {v v' : V} (s1 : SubStore σ σ1) (s2 : SubStore σ1 σ2) (f2 : σ1 id2 = none) (h : ∀ τ, SubStore σ τ → Wk τ σ v v') : RetV v (upd σ2 id2 o) fun r σ' => r = v' ∧ σ' = σ :=
  have hs : SubStore σ (upd σ2 id2 o) := (s1.trans s2).updK (s1.none f2)
  ⟨_, σ, hs, h _ hs, rfl, rfl⟩
theorem mbox_c (w h : Int) : PFun Tryd.prog 159 [.agg [vI w, vI h]] (encN (ndS (.box w h))) := fun σ => by
  refine Contract.of_runs Tryd.func159 e159 k159 (by simp [c159]) ?_
  (refine Runs.of_step Orc.nothing 300 ?_; simp -implicitDefEqProofs only [BB,seval,← decide_not,okind,vpre,vpure,intBin,intPre,strBin,strPre,popTo,argSlots,fldV,fldAV,subCells,idxVV,idxAAV,idxSV,sliceV,sliceSV,boundV,szIs,storeOp,storeS,setRowV,eff,extV,buildV,splice,eqSV,fitsL,eqCells,eqCell,minmaxV,capV,binBV,nilCheckV,bytesV,V.cells,V.stays,Orc.nothing,c159])
  refine effR_new fun id1 σ1 s1 a1 f1 => ?_
  simp -implicitDefEqProofs only [BB,seval,← decide_not,okind,vpre,vpure,intBin,intPre,strBin,strPre,popTo,argSlots,fldV,fldAV,subCells,idxVV,idxAAV,idxSV,sliceV,sliceSV,boundV,szIs,storeOp,storeS,setRowV,eff,extV,buildV,splice,eqSV,fitsL,eqCells,eqCell,minmaxV,capV,binBV,nilCheckV,bytesV,V.cells,V.stays]
  refine effR_new fun id2 σ2 s2 a2 f2 => ?_
  have b1 := s2 _ _ a1
  simp -implicitDefEqProofs only [BB,seval,← decide_not,okind,vpre,vpure,intBin,intPre,strBin,strPre,popTo,argSlots,fldV,fldAV,subCells,idxVV,idxAAV,idxSV,sliceV,sliceSV,boundV,szIs,storeOp,storeS,setRowV,eff,extV,buildV,splice,eqSV,fitsL,eqCells,eqCell,minmaxV,capV,binBV,nilCheckV,bytesV,V.cells,V.stays,b1,a2]
  exact retN s1 s2 f2 fun τ hs => wk_nd hs 3 1 0 0 0 0 w h Sty.zero
theorem mfloat_c (w h d : Int) : PFun Tryd.prog 162 [.agg [vI w, vI h, vI d]] (encN (ndS (.float w h d))) := fun σ => by
  refine Contract.of_runs Tryd.func162 e162 k162 (by simp [c162]) ?_
  (refine Runs.of_step Orc.nothing 300 ?_; simp -implicitDefEqProofs only [BB,seval,← decide_not,okind,vpre,vpure,intBin,intPre,strBin,strPre,popTo,argSlots,fldV,fldAV,subCells,idxVV,idxAAV,idxSV,sliceV,sliceSV,boundV,szIs,storeOp,storeS,setRowV,eff,extV,buildV,splice,eqSV,fitsL,eqCells,eqCell,minmaxV,capV,binBV,nilCheckV,bytesV,V.cells,V.stays,Orc.nothing,c162])
  refine effR_new fun id1 σ1 s1 a1 f1 => ?_
  simp -implicitDefEqProofs only [BB,seval,← decide_not,okind,vpre,vpure,intBin,intPre,strBin,strPre,popTo,argSlots,fldV,fldAV,subCells,idxVV,idxAAV,idxSV,sliceV,sliceSV,boundV,szIs,storeOp,storeS,setRowV,eff,extV,buildV,splice,eqSV,fitsL,eqCells,eqCell,minmaxV,capV,binBV,nilCheckV,bytesV,V.cells,V.stays]
  refine effR_new fun id2 σ2 s2 a2 f2 => ?_
  have b1 := s2 _ _ a1
  simp -implicitDefEqProofs only [BB,seval,← decide_not,okind,vpre,vpure,intBin,intPre,strBin,strPre,popTo,argSlots,fldV,fldAV,subCells,idxVV,idxAAV,idxSV,sliceV,sliceSV,boundV,szIs,storeOp,storeS,setRowV,eff,extV,buildV,splice,eqSV,fitsL,eqCells,eqCell,minmaxV,capV,binBV,nilCheckV,bytesV,V.cells,V.stays,b1,a2]
  exact retN s1 s2 f2 fun τ hs => wk_nd hs 4 1 0 0 0 d w h Sty.zero
theorem mblock_c (s : List Int) (hs : s.length = 12) (x : V) (hx : x.cells.length = 1) (hxs : x.stays = true) : PFun Tryd.prog 160 [.agg (s.map vI ++ [x])] (encN (ndS (.block s []))) := fun σ => by
  refine Contract.of_runs Tryd.func160 e160 k160 (by simp [c160]) ?_
  match s, hs with
  | [a, b, c, d, e, f, g, h, i, j, k, l], _ =>
    simp only [List.map_cons,List.map_nil,List.cons_append,List.nil_append]
    have hst : (V.agg [vI a, vI b, vI c, vI d, vI e, vI f, vI g, vI h, vI i, vI j, vI k, vI l, x]).stays = true := rfl
    (refine Runs.of_step Orc.nothing 300 ?_; simp -implicitDefEqProofs only [BB,seval,← decide_not,okind,vpre,vpure,intBin,intPre,strBin,strPre,popTo,argSlots,fldV,fldAV,subCells,idxVV,idxAAV,idxSV,sliceV,sliceSV,boundV,szIs,storeOp,storeS,setRowV,eff,extV,buildV,splice,eqSV,fitsL,eqCells,eqCell,minmaxV,capV,binBV,nilCheckV,bytesV,V.cells,V.stays,Orc.nothing,c160,hxs])
    refine effR_new fun id1 σ1 s1 a1 f1 => ?_
    simp -implicitDefEqProofs only [BB,seval,← decide_not,okind,vpre,vpure,intBin,intPre,strBin,strPre,popTo,argSlots,fldV,fldAV,subCells,idxVV,idxAAV,idxSV,sliceV,sliceSV,boundV,szIs,storeOp,storeS,setRowV,eff,extV,buildV,splice,eqSV,fitsL,eqCells,eqCell,minmaxV,capV,binBV,nilCheckV,bytesV,V.cells,V.stays]
    refine effR_new fun id2 σ2 s2 a2 f2 => ?_
    have b1 := s2 _ _ a1
    simp -implicitDefEqProofs only [BB,seval,← decide_not,okind,vpre,vpure,intBin,intPre,strBin,strPre,popTo,argSlots,fldV,fldAV,subCells,idxVV,idxAAV,idxSV,sliceV,sliceSV,boundV,szIs,storeOp,storeS,setRowV,eff,extV,buildV,splice,eqSV,fitsL,eqCells,eqCell,minmaxV,capV,binBV,nilCheckV,bytesV,V.cells,V.stays,b1,a2]
    exact retN s1 s2 f2 fun τ hs => wk_nd hs 1 1 0 0 0 0 0 0 ⟨a, b, c, d, e, f, g, h, i, j, k, l⟩
theorem slice2 (σ : Store) (x y : V) (l : List V) : sliceV σ 1 (.sl 1 (x :: y :: l)) (some (.int .i64 2)) none none = some (.sl 1 l) := by
  simp only [sliceV,boundV,List.length_cons]
  rw [if_pos ⟨by omega, by omega, by omega, by omega, trivial⟩]
  simp
  exact List.take_of_length_le (by omega)
theorem at0 (σ : Store) (x y : V) (l : List V) : idxAV σ 1 (.sl 1 (x :: y :: l)) (.int .i64 0) = some (.rp x) := by simp [idxAV]
theorem at1 (σ : Store) (x y : V) (l : List V) : idxAV σ 1 (.sl 1 (x :: y :: l)) (.int .i64 1) = some (.rp y) := by simp [idxAV]
theorem mtext_c (a b : Int) (r : List Int) : PFun Tryd.prog 161 [.agg [.sl 1 ((a :: b :: r).map vI)]] (encN (ndS (.text (a :: b :: r)))) := fun σ => by
  refine Contract.of_runs Tryd.func161 e161 k161 (by simp [c161]) ?_
  simp only [List.map_cons]
  (refine Runs.of_step Orc.nothing 300 ?_; simp -implicitDefEqProofs only [BB,seval,← decide_not,okind,vpre,vpure,intBin,intPre,strBin,strPre,popTo,argSlots,fldV,fldAV,subCells,idxVV,idxAAV,idxSV,sliceV,sliceSV,boundV,szIs,storeOp,storeS,setRowV,eff,extV,buildV,splice,eqSV,fitsL,eqCells,eqCell,minmaxV,capV,binBV,nilCheckV,bytesV,V.cells,V.stays,Orc.nothing,c161])
  refine effR_new fun id1 σ1 s1 a1 f1 => ?_
  simp -implicitDefEqProofs only [BB,seval,← decide_not,okind,vpre,vpure,intBin,intPre,strBin,strPre,popTo,argSlots,fldV,fldAV,subCells,idxVV,idxAAV,idxSV,sliceV,sliceSV,boundV,szIs,storeOp,storeS,setRowV,eff,extV,buildV,splice,eqSV,fitsL,eqCells,eqCell,minmaxV,capV,binBV,nilCheckV,bytesV,V.cells,V.stays]
  refine effR_new fun id2 σ2 s2 a2 f2 => ?_
  have b1 := s2 _ _ a1
  simp -implicitDefEqProofs only [BB,seval,← decide_not,okind,vpre,vpure,intBin,intPre,strBin,strPre,popTo,argSlots,fldV,fldAV,subCells,idxVV,idxAAV,idxSV,sliceSV,boundV,szIs,storeOp,storeS,setRowV,eff,extV,buildV,splice,eqSV,fitsL,eqCells,eqCell,minmaxV,capV,binBV,nilCheckV,bytesV,V.cells,V.stays,b1,a2,at0,at1,slice2]
  exact retN s1 s2 f2 fun τ hs => Wk.refl hs _
end Go.Vc
namespace Go.Vc
open Go.Proofs
mutual
/-- the nodes of a shape; of shapes -/
def toldS : Shp → List Nd
  | .box w h => [ndS (.box w h)]
  | .block s inner => { ndS (.block s inner) with size := 1 + ((toldL inner).length : Int) } :: toldL inner
  | .text ns => [ndS (.text ns)]
  | .float w h d => [ndS (.float w h d)]
def toldL : List Shp → List Nd
  | [] => []
  | x :: l => toldS x ++ toldL l
/-- twelve numbers in each block, two and more in each text -/
def wfS : Shp → Prop
  | .box _ _ => True
  | .block s inner => s.length = 12 ∧ wfL inner
  | .text ns => 2 ≤ ns.length
  | .float _ _ _ => True
def wfL : List Shp → Prop
  | [] => True
  | x :: l => wfS x ∧ wfL l
end
theorem toldL_append (a b : List Shp) : toldL (a ++ b) = toldL a ++ toldL b := by
  induction a with
  | nil => simp [toldL]
  | cons x l ih => simp [toldL, ih]
theorem wfL_get {l : List Shp} (h : wfL l) {i : Nat} (hi : i < l.length) : wfS l[i] := by
  induction l generalizing i with
  | nil => simp at hi
  | cons x l ih =>
    rw [wfL] at h
    cases i with
    | zero => exact h.1
    | succ i => exact ih h.2 (by simpa using hi)
theorem toldL_take {l : List Shp} {i : Nat} (hi : i < l.length) : toldL (l.take (i + 1)) = toldL (l.take i) ++ toldS l[i] := by
  rw [List.take_succ, toldL_append, List.getElem?_eq_getElem hi]
  simp [toldL]
theorem toldL_mem {l : List Shp} {i : Nat} (hi : i < l.length) : (toldL (l.take i)).length + (toldS l[i]).length ≤ (toldL l).length := by
  have h1 : toldL l = toldL (l.take (i + 1)) ++ toldL (l.drop (i + 1)) := by rw [← toldL_append, List.take_append_drop]
  rw [h1, toldL_take hi]
  simp only [List.length_append]
  omega
theorem toldL_ge (l : List Shp) : l.length ≤ (toldL l).length := by
  induction l with
  | nil => simp
  | cons x l ih =>
    rw [toldL, List.length_append, List.length_cons]
    have : 1 ≤ (toldS x).length := by cases x <;> simp [toldS]
    omega
theorem idx_shp (σ : Store) {l : List Shp} {i : Nat} (hi : i < l.length) : idxAV σ 1 (.sl 1 (l.map encS)) (.int .i64 i) = some (.rp (encS l[i])) := by
  simp [idxAV, hi]
theorem loadV_rp_shp (σ : Store) (sz : Nat) (x : Shp) : loadV σ false sz (.rp (encS x)) = some (encS x) := by cases x <;> simp [encS, loadV]
theorem meth_c (x : Shp) (h : wfS x) : ∃ t v f, encS x = .iface t v ∧ ([(105, 159), (109, 160), (140, 161), (142, 162)] : List (TypeId × FuncId)).lookup t = some f ∧ PFun Tryd.prog f [v] (encN (ndS x)) := by
  cases x with
  | box w v => exact ⟨105, .agg [vI w, vI v], 159, by rw [encS], rfl, mbox_c w v⟩
  | float w v d => exact ⟨142, .agg [vI w, vI v, vI d], 162, by rw [encS], rfl, mfloat_c w v d⟩
  | block s inner =>
    rw [wfS] at h
    exact ⟨_, _, _, by rw [encS], rfl, mblock_c s h.1 (.sl 1 (encSs inner)) rfl rfl⟩
  | text ns =>
    rw [wfS] at h
    match ns, h with
    | a :: b :: r, _ => exact ⟨_, _, _, by rw [encS], rfl, mtext_c a b r⟩
set_option maxRecDepth 100000 in
theorem told_c : ∀ (F : Nat) (xs : List Shp), (toldL xs).length ≤ F → (toldL xs).length ≤ 1000000 → xs.length ≤ 1000000 → wfL xs → PFun Tryd.prog 35 [.sl 1 (xs.map encS)] (encNs (toldL xs)) := by
  intro F
  induction F using Nat.strongRecOn with
  | _ F ih =>
    intro xs hF hl hxl hwf σ
    refine Contract.of_runs Tryd.func35 e35 k35 (by simp [c35]) ?_
    refine Runs.mix 10 ?_
    have hlen : lenV false (.sl 1 (xs.map encS)) = some (.int .i64 (xs.length : Int)) := by simp [lenV]
    (refine Runs.of_step Orc.nothing 300 ?_; simp -implicitDefEqProofs only [BB,seval,effR_some,effD_some,← decide_not,okind,vpre,vpure,intBin,intPre,strBin,strPre,popTo,argSlots,fldV,fldAV,subCells,idxVV,idxAAV,idxSV,sliceV,sliceSV,boundV,szIs,storeOp,storeS,setRowV,eff,extV,buildV,splice,eqSV,fitsL,eqCells,eqCell,minmaxV,capV,binBV,nilCheckV,bytesV,V.cells,V.stays,Orc.nothing,c35,hlen])
    refine Runs.loop (fun m st => ∃ i, i ≤ xs.length ∧ m = xs.length - i ∧ SubStore σ st.σ ∧ OutV σ st.σ 37 20 (st.s 3) ((toldL (xs.take i)).map encN) ∧ st.s 10 = .sl 1 (xs.map encS) ∧ st.s 11 = vI (xs.length : Int) ∧ st.s 12 = vI (i : Int)) xs.length
      ⟨0, by omega, by omega, SubStore.refl σ, OutV.start, rfl, rfl, rfl⟩ ?_
    rintro m ⟨S, σc⟩ ⟨i, hi, rfl, sub, out, p10, p11, p12⟩
    simp only at sub out p10 p11 p12
    refine Runs.mix 10 ?_
    by_cases hlt : i < xs.length
    · have hlt' : ((i : Int) < (xs.length : Int)) = True := by simp [hlt]
      have hix := idx_shp σc hlt
      (refine Runs.of_step Orc.nothing 300 ?_; simp -implicitDefEqProofs only [BB,seval,effR_some,effD_some,← decide_not,okind,vpre,vpure,intBin,intPre,strBin,strPre,popTo,argSlots,fldV,fldAV,subCells,idxVV,idxAAV,idxSV,sliceV,sliceSV,boundV,szIs,storeOp,storeS,setRowV,eff,extV,buildV,splice,eqSV,fitsL,eqCells,eqCell,minmaxV,capV,binBV,nilCheckV,bytesV,V.cells,V.stays,Orc.nothing,p10,p11,p12,hlt',hix,loadV_rp_shp])
      obtain ⟨t, v, f, h1, h2, h3⟩ := meth_c xs[i] (wfL_get hwf hlt)
      refine Runs.inv (t := t) (v := v) rfl rfl (by exact h1) h2 (h3 _) ?_
      rintro r1 σ1 ⟨rfl, rfl⟩
      (refine Runs.of_step Orc.nothing 300 ?_; simp -implicitDefEqProofs only [BB,seval,← decide_not,okind,vpre,vpure,intBin,intPre,strBin,strPre,popTo,argSlots,fldV,fldAV,subCells,idxVV,idxAAV,idxSV,sliceV,sliceSV,boundV,szIs,storeOp,storeS,setRowV,eff,extV,buildV,splice,eqSV,fitsL,eqCells,eqCell,minmaxV,capV,binBV,nilCheckV,bytesV,V.cells,V.stays,Orc.nothing])
      refine effR_new fun id6 σ6 s6 a6 f6 => ?_
      have z6 : σ id6 = none := sub.none f6
      have sub6 : SubStore σ σ6 := sub.trans s6
      have out6 := out.mono s6
      have htas : tasV 109 true (.agg [.int .i64 0, .int .i64 0, .int .i64 0, .int .i64 0, .int .i64 0, .int .i64 0, .int .i64 0, .int .i64 0, .int .i64 0, .int .i64 0, .int .i64 0, .int .i64 0, .nils]) (encS xs[i]) = (match xs[i] with
        | .block s inner => some (.tup [.agg (s.map vI ++ [.sl 1 (encSs inner)]), .bool true])
        | _ => some (.tup [.agg [.int .i64 0, .int .i64 0, .int .i64 0, .int .i64 0, .int .i64 0, .int .i64 0, .int .i64 0, .int .i64 0, .int .i64 0, .int .i64 0, .int .i64 0, .int .i64 0, .nils], .bool false])) := by
        cases xs[i] <;> simp [encS, tasV]
      have hwx := wfL_get hwf hlt
      have htk := toldL_take hlt
      have hmem := toldL_mem hlt
      generalize hx : xs[i] = x at *
      have plain : (∀ s inner, x ≠ .block s inner) → toldS x = [ndS x] ∧ tasV 109 true (.agg [.int .i64 0, .int .i64 0, .int .i64 0, .int .i64 0, .int .i64 0, .int .i64 0, .int .i64 0, .int .i64 0, .int .i64 0, .int .i64 0, .int .i64 0, .int .i64 0, .nils]) (encS x) = some (.tup [.agg [.int .i64 0, .int .i64 0, .int .i64 0, .int .i64 0, .int .i64 0, .int .i64 0, .int .i64 0, .int .i64 0, .int .i64 0, .int .i64 0, .int .i64 0, .int .i64 0, .nils], .bool false]) := by
        intro hb
        cases x with
        | block s inner => exact absurd rfl (hb s inner)
        | box w h => exact ⟨by rw [toldS], htas⟩
        | text ns => exact ⟨by rw [toldS], htas⟩
        | float w h d => exact ⟨by rw [toldS], htas⟩
      by_cases hb : ∃ s inner, x = .block s inner
      · obtain ⟨s, inner, rfl⟩ := hb
        simp only at htas
        rw [wfS] at hwx
        rw [encSs_eq] at htas
        generalize hxv : encS (Shp.block s inner) = xv at *
        have hbs : toldS (.block s inner) = { ndS (.block s inner) with size := 1 + ((toldL inner).length : Int) } :: toldL inner := by rw [toldS]
        rw [hbs] at htk hmem
        simp only [List.length_cons] at hmem
        have hcl : (s.map vI ++ [V.sl 1 (inner.map encS)]).length = 13 := by simp [hwx.1]
        have hs00 : setRowV (.agg [.int .i64 0, .int .i64 0, .int .i64 0, .int .i64 0, .int .i64 0, .int .i64 0, .int .i64 0, .int .i64 0, .int .i64 0, .int .i64 0, .int .i64 0, .int .i64 0, .nils]) 0 13 (.agg (s.map vI ++ [.sl 1 (inner.map encS)])) = some (.agg (s.map vI ++ [.sl 1 (inner.map encS)])) := by
          unfold setRowV
          rw [if_pos ⟨hcl, rfl⟩, if_pos ⟨rfl, rfl⟩]
        have h12 : (s.map vI ++ [V.sl 1 (inner.map encS)])[12]? = some (.sl 1 (inner.map encS)) := by
          rw [List.getElem?_append_right (by simp [hwx.1])]; simp [hwx.1]
        generalize hy : ndS (Shp.block s inner) = y at *
        have hysz : y.size = 1 := by rw [← hy]; rfl
        simp -implicitDefEqProofs only [BB,seval,← decide_not,okind,vpre,vpure,intBin,intPre,strBin,strPre,popTo,argSlots,fldV,fldAV,subCells,idxVV,idxAAV,idxSV,sliceV,sliceSV,boundV,szIs,storeOp,storeS,setRowV,eff,extV,buildV,splice,eqSV,fitsL,eqCells,eqCell,minmaxV,capV,binBV,nilCheckV,bytesV,V.cells,V.stays,a6,encN,Nd.cells,htas]
        refine effR_new fun id7 σ7 s7 a7 f7 => ?_
        have b6 : σ7 id6 = some ⟨37, 20, [.agg y.cells]⟩ := s7 _ _ upd_same
        have n67 : id6 ≠ id7 := ne_new (σ := upd σ6 id6 ⟨37, 20, [.agg y.cells]⟩) upd_same f7
        have S1 := s6.updK (o := ⟨37, 20, [.agg y.cells]⟩) f6
        simp only [Nd.cells,hysz] at b6
        simp -implicitDefEqProofs only [BB,seval,← decide_not,okind,vpre,vpure,intBin,intPre,strBin,strPre,popTo,argSlots,fldV,fldAV,subCells,idxVV,idxAAV,idxSV,sliceV,sliceSV,boundV,szIs,storeOp,storeS,eff,extV,buildV,splice,eqSV,fitsL,eqCells,eqCell,minmaxV,capV,binBV,nilCheckV,bytesV,V.cells,V.stays,a7,hs00,h12,V.cells_agg]
        have hge := toldL_ge inner
        refine Runs.pcall rfl rfl rfl (ih (toldL inner).length (by omega) inner (Nat.le_refl _) (by omega) (by omega) hwx.2 _) ?_
        have hle : lenV false (encNs (toldL inner)) = some (.int .i64 ((toldL inner).length : Int)) := by simp [encNs, lenV]
        have hin1 : inR .i64 (1 + ((toldL inner).length : Int)) := inR_i64 (by omega) (by omega)
        (refine Runs.of_step Orc.nothing 300 ?_; simp -implicitDefEqProofs only [BB,seval,← decide_not,okind,vpre,vpure,intBin,intPre,strBin,strPre,popTo,argSlots,fldV,fldAV,subCells,idxVV,idxAAV,idxSV,sliceV,sliceSV,boundV,szIs,storeOp,storeS,setRowV,eff,extV,buildV,splice,eqSV,fitsL,eqCells,eqCell,minmaxV,capV,binBV,nilCheckV,bytesV,V.cells,V.stays,Orc.nothing,b6,upd_ne n67,hle,hin1])
        refine effR_new fun id40 σ40 s40 a40 f40 => ?_
        have S2 := SubStore.trans (SubStore.updK (S1.trans (s7.updK f7)) f6) s40
        obtain ⟨idA, hda, hdA⟩ := out.dst' S2
        have hb : ((toldL (xs.take i)).length + 1) * 177 ≤ 140737488355328 := by omega
        simp -implicitDefEqProofs only [BB,seval,← decide_not,okind,vpre,vpure,intBin,intPre,strBin,strPre,popTo,argSlots,fldV,fldAV,subCells,idxVV,idxAAV,idxSV,sliceV,sliceSV,boundV,szIs,storeOp,storeS,setRowV,eff,extV,buildV,splice,eqSV,fitsL,eqCells,eqCell,minmaxV,capV,binBV,nilCheckV,bytesV,V.cells_agg,V.cells_int,V.cells_nils,V.cells_own,V.cells_sl,V.cells_str,V.cells_bool,V.cells_fn,V.cells_ptr,V.cells_rp,V.stays_agg,V.stays_int,V.stays_nils,V.stays_own,V.stays_sl,V.stays_str,V.stays_bool,V.stays_fn,V.stays_ptr,V.stays_rp,hda,srcOne a40,List.length_map,hb]
        refine effR_put fun id41 σ41 s41 a41 f41 => ?_
        have keep41 : ∀ q o, σ q = some o → σ41 q = some o := fun q o ho => keepA hdA s41 q o (by rw [ho]; simp) (S2 _ _ (sub _ _ ho))
        have out41 := OutV.new (K := σ) (n := (toldL (xs.take i)).length + 1) (by simp) a41 (sub.none (S2.none f41))
        obtain ⟨idB, hdb, hdB⟩ := out41.dst' (SubStore.refl σ41)
        have hsr : srcRows σ41 20 (encNs (toldL inner)) = some ((toldL inner).map encN) := by simp [encNs, srcRows]
        have hb2 : ((toldL (xs.take i)).length + 1 + (toldL inner).length) * 177 ≤ 140737488355328 := by omega
        simp -implicitDefEqProofs only [BB,seval,← decide_not,okind,vpre,vpure,intBin,intPre,strBin,strPre,popTo,argSlots,fldV,fldAV,subCells,idxVV,idxAAV,idxSV,sliceV,sliceSV,boundV,szIs,storeOp,storeS,setRowV,eff,extV,buildV,splice,eqSV,fitsL,eqCells,eqCell,minmaxV,capV,binBV,nilCheckV,bytesV,V.cells_agg,V.cells_int,V.cells_nils,V.cells_own,V.cells_sl,V.cells_str,V.cells_bool,V.cells_fn,V.cells_ptr,V.cells_rp,V.stays_agg,V.stays_int,V.stays_nils,V.stays_own,V.stays_sl,V.stays_str,V.stays_bool,V.stays_fn,V.stays_ptr,V.stays_rp,hdb,hsr,List.length_append,List.length_map,hb2]
        refine effR_put fun id43 σ43 s43 a43 f43 => ?_
        have hin : inR .i64 ((i : Int) + 1) := inR_i64 (by omega) (by omega)
        simp -implicitDefEqProofs only [BB,seval,← decide_not,okind,vpre,vpure,intBin,intPre,strBin,strPre,popTo,argSlots,fldV,fldAV,subCells,idxVV,idxAAV,idxSV,sliceV,sliceSV,boundV,szIs,storeOp,storeS,setRowV,eff,extV,buildV,splice,eqSV,fitsL,eqCells,eqCell,minmaxV,capV,binBV,nilCheckV,bytesV,V.cells,V.stays,p10,p11,p12,hin]
        have sub43 : SubStore σ σ43 := fun q o ho => keepA hdB s43 q o (by rw [ho]; simp) (keep41 _ _ ho)
        refine ⟨xs.length - (i + 1), by omega, i + 1, by omega, rfl, sub43, ?_, by simp⟩
        rw [htk, List.map_append]
        refine OutV.new (by simp; omega) (by rw [a43]; simp [encN, Nd.cells, List.append_assoc]) (by
          cases hs : σ id43 with
          | none => rfl
          | some o => rw [keep41 _ _ hs] at f43; cases f43)
      · obtain ⟨q1, q2⟩ := plain fun s inner e => hb ⟨s, inner, e⟩
        rw [q1] at htk hmem
        simp only [List.length_cons,List.length_nil] at hmem
        generalize hy : ndS x = y at *
        simp -implicitDefEqProofs only [BB,seval,← decide_not,okind,vpre,vpure,intBin,intPre,strBin,strPre,popTo,argSlots,fldV,fldAV,subCells,idxVV,idxAAV,idxSV,sliceV,sliceSV,boundV,szIs,storeOp,storeS,setRowV,eff,extV,buildV,splice,eqSV,fitsL,eqCells,eqCell,minmaxV,capV,binBV,nilCheckV,bytesV,V.cells,V.stays,a6,encN,Nd.cells,q2]
        refine effR_new fun id7 σ7 s7 a7 f7 => ?_
        have b6 : σ7 id6 = some ⟨37, 20, [.agg y.cells]⟩ := s7 _ _ upd_same
        have n67 : id6 ≠ id7 := ne_new (σ := upd σ6 id6 ⟨37, 20, [.agg y.cells]⟩) upd_same f7
        have S1 := s6.updK (o := ⟨37, 20, [.agg y.cells]⟩) f6
        simp only [Nd.cells] at b6
        simp -implicitDefEqProofs only [BB,seval,← decide_not,okind,vpre,vpure,intBin,intPre,strBin,strPre,popTo,argSlots,fldV,fldAV,subCells,idxVV,idxAAV,idxSV,sliceV,sliceSV,boundV,szIs,storeOp,storeS,setRowV,eff,extV,buildV,splice,eqSV,fitsL,eqCells,eqCell,minmaxV,capV,binBV,nilCheckV,bytesV,V.cells,V.stays,a7,b6,upd_ne n67]
        refine effR_new fun id27 σ27 s27 a27 f27 => ?_
        have S2 := (S1.trans (s7.updK f7)).trans s27
        obtain ⟨idA, hda, hdA⟩ := out.dst' S2
        have hb : ((toldL (xs.take i)).length + 1) * 177 ≤ 140737488355328 := by omega
        simp -implicitDefEqProofs only [BB,seval,← decide_not,okind,vpre,vpure,intBin,intPre,strBin,strPre,popTo,argSlots,fldV,fldAV,subCells,idxVV,idxAAV,idxSV,sliceV,sliceSV,boundV,szIs,storeOp,storeS,setRowV,eff,extV,buildV,splice,eqSV,fitsL,eqCells,eqCell,minmaxV,capV,binBV,nilCheckV,bytesV,V.cells_agg,V.cells_int,V.cells_nils,V.cells_own,V.cells_sl,V.cells_str,V.cells_bool,V.cells_fn,V.cells_ptr,V.cells_rp,V.stays_agg,V.stays_int,V.stays_nils,V.stays_own,V.stays_sl,V.stays_str,V.stays_bool,V.stays_fn,V.stays_ptr,V.stays_rp,hda,srcOne a27,List.length_map,hb]
        refine effR_put fun id28 σ28 s28 a28 f28 => ?_
        have hin : inR .i64 ((i : Int) + 1) := inR_i64 (by omega) (by omega)
        simp -implicitDefEqProofs only [BB,seval,← decide_not,okind,vpre,vpure,intBin,intPre,strBin,strPre,popTo,argSlots,fldV,fldAV,subCells,idxVV,idxAAV,idxSV,sliceV,sliceSV,boundV,szIs,storeOp,storeS,setRowV,eff,extV,buildV,splice,eqSV,fitsL,eqCells,eqCell,minmaxV,capV,binBV,nilCheckV,bytesV,V.cells,V.stays,p10,p11,p12,hin]
        have sub28 : SubStore σ σ28 := fun q o ho => keepA hdA s28 q o (by rw [ho]; simp) (S2 _ _ (sub _ _ ho))
        refine ⟨xs.length - (i + 1), by omega, i + 1, by omega, rfl, sub28, ?_, by simp⟩
        rw [htk, List.map_append]
        exact OutV.new (by simp) (by rw [a28]; rfl) (sub.none (S2.none f28))
    · have e : i = xs.length := by omega
      subst e
      have hlt' : ((xs.length : Int) < (xs.length : Int)) = False := by simp
      (refine Runs.of_step Orc.nothing 300 ?_; simp -implicitDefEqProofs only [BB,seval,effR_some,effD_some,← decide_not,okind,vpre,vpure,intBin,intPre,strBin,strPre,popTo,argSlots,fldV,fldAV,subCells,idxVV,idxAAV,idxSV,sliceV,sliceSV,boundV,szIs,storeOp,storeS,setRowV,eff,extV,buildV,splice,eqSV,fitsL,eqCells,eqCell,minmaxV,capV,binBV,nilCheckV,bytesV,V.cells,V.stays,Orc.nothing,p10,p11,p12,hlt'])
      rw [List.take_length] at out
      exact out.retv sub rfl
end Go.Vc
namespace Go.Vc
open Go.Proofs
theorem textR_ge (l : List Tk) : 2 ≤ (textR l).1.length := by unfold textR; simp
theorem nodesR_wf : ∀ (f : Nat) (l : List Tk), wfL (nodesR f l).1 ∧ (toldL (nodesR f l).1).length + (nodesR f l).2.1.length ≤ l.length
  | 0, l => ⟨by simp [nodesR, wfL], by simp [nodesR, toldL]⟩
  | f + 1, l => by
    have hT : ∀ l w, wfL (if w = true then (([] : List Shp), l, true) else nodesR f l).1 ∧ (toldL (if w = true then (([] : List Shp), l, true) else nodesR f l).1).length + (if w = true then (([] : List Shp), l, true) else nodesR f l).2.1.length ≤ l.length := by
      intro l w
      split
      · exact ⟨by simp [wfL], by simp [toldL]⟩
      · exact nodesR_wf f l
    unfold nodesR
    split
    · rename_i hs
      have h1 := (takeR_yes hs).2
      have h2 := attrsT_len (fun _ => true) plainS l.tail false
      have h3 := hT (attrsT (fun _ => true) plainS l.tail false).2.1 (attrsT (fun _ => true) plainS l.tail false).2.2
      simp only
      generalize attrsT (fun _ => true) plainS l.tail false = a at *
      generalize (if a.2.2 = true then (([] : List Shp), a.2.1, true) else nodesR f a.2.1) = n at *
      have h4 := takeR_len 93 n.2.1 n.2.2
      generalize takeR 93 n.2.1 n.2.2 = c at *
      have h5 := hT c.1 c.2
      refine ⟨by rw [wfL, wfS]; exact ⟨⟨h2.1, h3.1⟩, h5.1⟩, ?_⟩
      rw [toldL, toldS]
      simp only [List.length_append,List.length_cons]
      omega
    · split
      · rename_i hs
        have h1 := textR_len hs
        have h2 := textR_ge l
        simp only
        have h5 := hT (textR l).2.1 (textR l).2.2
        refine ⟨by rw [wfL, wfS]; exact ⟨h2, h5.1⟩, ?_⟩
        rw [toldL, toldS]
        simp only [List.length_append,List.length_cons,List.length_nil]
        omega
      · split
        · rename_i hs
          have h1 := (takeR_yes hs).2
          have h2 := boxR_len 125 l.tail false
          simp only
          have h5 := hT (boxR 125 l.tail false).2.2.1 (boxR 125 l.tail false).2.2.2
          refine ⟨by rw [wfL, wfS]; exact ⟨trivial, h5.1⟩, ?_⟩
          rw [toldL, toldS]
          simp only [List.length_append,List.length_cons,List.length_nil]
          omega
        · split
          · rename_i hs
            have h1 := floatR_len hs
            have hx : ∃ w h d, (floatR l false).1 = .float w h d := ⟨_, _, _, rfl⟩
            simp only
            have h5 := hT (floatR l false).2.1 (floatR l false).2.2
            obtain ⟨w, v, d, hx⟩ := hx
            rw [hx]
            refine ⟨by rw [wfL, wfS]; exact ⟨trivial, h5.1⟩, ?_⟩
            rw [toldL, toldS]
            simp only [List.length_append,List.length_cons,List.length_nil]
            omega
          · exact ⟨by simp [wfL], by simp [toldL]⟩
theorem fromT_len : ∀ (L l : List Tk), fromT L = .ok l → l.length ≤ L.length
  | [], l, h => by simp only [fromT,Res.ok.injEq] at h; subst h; simp
  | t :: L, l, h => by
    unfold fromT at h
    split at h
    · cases h
    · cases hL : fromT L with
      | bad p => rw [hL] at h; simp [Res.cons] at h
      | ok m =>
        rw [hL] at h
        simp only [Res.cons,Res.ok.injEq] at h
        subst h
        have := fromT_len L m hL
        simp only [List.length_cons]; omega
theorem ofI_len {s : List UInt8} {l : List Tk} (h : ofI s false 0 = .ok l) : l.length ≤ s.length := by
  rw [← ofC_eq] at h
  unfold ofC at h
  split at h
  · exact Nat.le_trans (fromT_len _ _ h) (by simpa using allI_len s s.length 0 0 (by omega))
  · split at h <;> cases h
def readR (s : List UInt8) : List Nd × Int × Int := match ofI s false 0 with
  | .bad p => ([], p, 1)
  | .ok l => match (nodesR l.length l).2.1 with
    | t :: _ => ([], t.at', 1)
    | [] => if (nodesR l.length l).2.2 then ([], s.length, 1) else (toldL (nodesR l.length l).1, 0, 0)
def readV (r : List Nd × Int × Int) : V := .tup [encNs r.1, vI r.2.1, vI r.2.2]
theorem retE {σ : Store} {a b : Int} {τ : Store} (h : SubStore σ τ) : RetV (.tup [.nils, vI a, vI b]) τ fun r σ' => r = readV ([], a, b) ∧ σ' = σ :=
  ⟨_, σ, h, Wk.tup (by simp only [WkL]; exact ⟨Wk.nils 20, Wk.refl h _, Wk.refl h _, trivial⟩), rfl, rfl⟩
theorem readOf_c (s : List UInt8) (hs : s.length ≤ 1000000) : PFun Tryd.prog 12 [.str s] (readV (readR s)) := fun σ => by
  refine Contract.of_runs Tryd.func12 e12 k12 (by simp [c12]) ?_
  refine Runs.mix 8 ?_
  (refine Runs.of_step Orc.nothing 300 ?_; simp -implicitDefEqProofs only [BB,seval,effR_some,effD_some,← decide_not,okind,vpre,vpure,intBin,intPre,strBin,strPre,popTo,argSlots,fldV,fldAV,subCells,idxVV,idxAAV,idxSV,sliceV,sliceSV,boundV,szIs,storeOp,storeS,setRowV,eff,extV,buildV,splice,eqSV,fitsL,eqCells,eqCell,minmaxV,capV,binBV,nilCheckV,bytesV,V.cells,V.stays,Orc.nothing,c12])
  refine Runs.pcall rfl rfl rfl (of_lex s hs _) ?_
  cases hl : ofI s false 0 with
  | bad p =>
    have hr : readR s = ([], (p : Int), 1) := by rw [readR, hl]
    rw [hr]
    (refine Runs.of_step Orc.nothing 300 ?_; simp -implicitDefEqProofs only [BB,seval,effR_some,effD_some,← decide_not,okind,vpre,vpure,intBin,intPre,strBin,strPre,popTo,argSlots,fldV,fldAV,subCells,idxVV,idxAAV,idxSV,sliceV,sliceSV,boundV,szIs,storeOp,storeS,setRowV,eff,extV,buildV,splice,eqSV,fitsL,eqCells,eqCell,minmaxV,capV,binBV,nilCheckV,bytesV,V.cells,V.stays,Orc.nothing,resT])
    exact retE (SubStore.refl _)
  | ok l =>
    have hll := ofI_len hl
    (refine Runs.of_step Orc.nothing 300 ?_; simp -implicitDefEqProofs only [BB,seval,← decide_not,okind,vpre,vpure,intBin,intPre,strBin,strPre,popTo,argSlots,fldV,fldAV,subCells,idxVV,idxAAV,idxSV,sliceV,sliceSV,boundV,szIs,storeOp,storeS,setRowV,eff,extV,buildV,splice,eqSV,fitsL,eqCells,eqCell,minmaxV,capV,binBV,nilCheckV,bytesV,V.cells,V.stays,Orc.nothing,resT])
    refine effR_new fun id6 σ6 s6 a6 f6 => ?_
    have h6 : σ6 id6 = some (rdr l false) := a6
    simp -implicitDefEqProofs only [BB,seval,← decide_not,okind,vpre,vpure,intBin,intPre,strBin,strPre,popTo,argSlots,fldV,fldAV,subCells,idxVV,idxAAV,idxSV,sliceV,sliceSV,boundV,szIs,storeOp,storeS,setRowV,eff,extV,buildV,splice,eqSV,fitsL,eqCells,eqCell,minmaxV,capV,binBV,nilCheckV,bytesV,V.cells,V.stays]
    refine Runs.call rfl rfl rfl (nodes_c l.length σ6 id6 l false (Nat.le_refl _) (by omega) h6) ?_
    have hn0 : nodesT l.length l false = nodesR l.length l := rfl
    rw [hn0]
    have hwf := nodesR_wf l.length l
    generalize hn : nodesR l.length l = n at *
    rintro r1 σ7 ⟨rfl, hσ7⟩
    have hσ7 : σ7 = upd σ6 id6 (rdr n.2.1 n.2.2) := hσ7
    have sub7 : SubStore σ σ7 := by rw [hσ7]; exact s6.updK f6
    have h7 : σ7 id6 = some (rdr n.2.1 n.2.2) := by rw [hσ7]; exact upd_same
    cases hrest : n.2.1 with
    | cons t r =>
      have hr : readR s = ([], t.at', 1) := by rw [readR, hl]; simp only [hn,hrest]
      rw [hr]
      rw [hrest] at h7
      have h7 : σ7 id6 = some ⟨57, 2, [.agg [.sl 4 (encT t :: r.map encT), .bool n.2.2]]⟩ := h7
      (refine Runs.of_step Orc.nothing 300 ?_; simp -implicitDefEqProofs only [BB,seval,effR_some,effD_some,← decide_not,okind,vpre,vpure,intBin,intPre,strBin,strPre,popTo,argSlots,fldV,fldAV,subCells,idxVV,idxAAV,idxSV,sliceV,sliceSV,boundV,szIs,storeOp,storeS,setRowV,eff,extV,buildV,splice,eqSV,fitsL,eqCells,eqCell,minmaxV,capV,binBV,nilCheckV,bytesV,V.cells,V.stays,Orc.nothing,h7,len1,idx0])
      exact retE sub7
    | nil =>
      rw [hrest] at h7 hwf
      have h7 : σ7 id6 = some ⟨57, 2, [.agg [.sl 4 [], .bool n.2.2]]⟩ := h7
      cases hw : n.2.2 with
      | true =>
        have hr : readR s = ([], (s.length : Int), 1) := by rw [readR, hl]; simp only [hn,hrest,hw,if_true]
        rw [hr]
        rw [hw] at h7
        (refine Runs.of_step Orc.nothing 300 ?_; simp -implicitDefEqProofs only [BB,seval,effR_some,effD_some,← decide_not,okind,vpre,vpure,intBin,intPre,strBin,strPre,popTo,argSlots,fldV,fldAV,subCells,idxVV,idxAAV,idxSV,sliceV,sliceSV,boundV,szIs,storeOp,storeS,setRowV,eff,extV,buildV,splice,eqSV,fitsL,eqCells,eqCell,minmaxV,capV,binBV,nilCheckV,bytesV,V.cells,V.stays,Orc.nothing,h7,len0])
        exact retE sub7
      | false =>
        have hr : readR s = (toldL n.1, 0, 0) := by rw [readR, hl]; simp only [hn,hrest,hw,Bool.false_eq_true,if_false]
        rw [hr]
        rw [hw] at h7
        (refine Runs.of_step Orc.nothing 300 ?_; simp -implicitDefEqProofs only [BB,seval,effR_some,effD_some,← decide_not,okind,vpre,vpure,intBin,intPre,strBin,strPre,popTo,argSlots,fldV,fldAV,subCells,idxVV,idxAAV,idxSV,sliceV,sliceSV,boundV,szIs,storeOp,storeS,setRowV,eff,extV,buildV,splice,eqSV,fitsL,eqCells,eqCell,minmaxV,capV,binBV,nilCheckV,bytesV,V.cells,V.stays,Orc.nothing,h7,len0])
        simp only [List.length_nil,Nat.add_zero] at hwf
        refine Runs.pcall rfl rfl rfl (told_c l.length n.1 hwf.2 (by omega) (Nat.le_trans (toldL_ge _) (by omega)) hwf.1 _) ?_
        (refine Runs.of_step Orc.nothing 300 ?_; simp -implicitDefEqProofs only [BB,seval,effR_some,effD_some,← decide_not,okind,vpre,vpure,intBin,intPre,strBin,strPre,popTo,argSlots,fldV,fldAV,subCells,idxVV,idxAAV,idxSV,sliceV,sliceSV,boundV,szIs,storeOp,storeS,setRowV,eff,extV,buildV,splice,eqSV,fitsL,eqCells,eqCell,minmaxV,capV,binBV,nilCheckV,bytesV,V.cells,V.stays,Orc.nothing])
        exact RetV.pure sub7 rfl
end Go.Vc
namespace Go.Vc
open Go.Proofs
def lettersB : List UInt8 := [109, 110, 112, 113, 105, 111, 119, 104, 66, 65, 73, 99]
end Go.Vc
namespace Go.Vc
open Go.Proofs
theorem FzL.same {σ : Store} {N : Nat → Prop} : ∀ (vs : List V), noidL vs = true → FzL σ N vs vs
  | [], _ => .nil
  | v :: vs, h => by
    simp only [noidL,Bool.and_eq_true] at h
    exact .cons _ _ _ _ (.same v h.1) (FzL.same vs h.2)
theorem FzL.app {σ : Store} {N : Nat → Prop} : ∀ {a b c d : List V}, FzL σ N a b → FzL σ N c d → FzL σ N (a ++ c) (b ++ d)
  | _, _, _, _, .nil, h => h
  | _, _, _, _, .cons v u vs us h h', h2 => .cons v u _ _ h (FzL.app h' h2)
theorem FzL.one {σ : Store} {N : Nat → Prop} {v u : V} (h : Fz σ N v u) : FzL σ N [v] [u] := .cons _ _ _ _ h .nil
theorem OutV.upd_ne {K σ : Store} {e sz : Nat} {v : V} {rows : List V} (h : OutV K σ e sz v rows) {id : Nat} {o : Ob} (hK : K id ≠ none) : OutV K (upd σ id o) e sz v rows := by
  rcases h with h | ⟨q, h1, h2, h3⟩
  · exact .inl h
  · have : q ≠ id := fun e => hK (by rw [← e]; exact h3)
    exact .inr ⟨q, h1, by rw [Vc.upd_ne this]; exact h2, h3⟩
def ndW (x : Nd) (v : V) : V := .agg [vI x.kind, vI x.size, vI x.st.top, vI x.st.bottom, vI x.st.padTop, vI x.st.padBottom, vI x.st.inset, vI x.st.orphans, vI x.st.widows, vI x.st.head, vI x.st.before, vI x.st.after, vI x.st.inside, vI x.st.clear, vI x.line, vI x.space, v, vI x.side, vI x.w, vI x.h]
structure XInv (K σ : Store) (id5 : Nat) (x : Nd) (v : V) : Prop where
  off : Off id5 K σ
  r5 : σ id5 = some ⟨37, 20, [ndW x v]⟩
  out : OutV K σ 3 1 v (x.words.map vI)
theorem XInv.push {K σ σ1 σ2 : Store} {id5 i2 : Nat} {x : Nd} {v : V} {n : Int} {idA : Option Nat} (inv : XInv K σ id5 x v) (hK : K id5 ≠ none) (s1 : SubStore σ σ1) (hA : ∀ i, idA = some i → K i = none ∧ ∃ o, σ i = some o)
    (s2 : SubStore (delO σ1 idA) σ2) (a2 : σ2 i2 = some ⟨3, 1, x.words.map vI ++ [vI n]⟩) (f2 : σ1 i2 = none) :
    XInv K (upd σ2 id5 ⟨37, 20, [ndW { x with words := x.words ++ [n] } (.own i2 0 (x.words.length + 1))]⟩) id5 { x with words := x.words ++ [n] } (.own i2 0 (x.words.length + 1)) where
  off := Off.upd fun q hq o ho => keepA hA s2 q o (by rw [ho]; simp) (s1 _ _ (inv.off q hq o ho))
  r5 := upd_same
  out := by
    have f : σ i2 = none := s1.none f2
    have hne : i2 ≠ id5 := fun e => by rw [e, inv.r5] at f; cases f
    refine OutV.new (by simp) (by rw [upd_ne hne, a2]; simp) ?_
    exact inv.off.none inv.r5 f
end Go.Vc
namespace Go.Vc
def loK (k : Nat) : Int := if k = 5 ∨ k = 6 then 1 else 0
def hiK (k : Nat) : Int := if k = 8 ∨ k = 9 then 4 else if k = 10 then 1 else if k = 11 then 3 else MX
def okL (s : List Int) : Prop := ∀ k v, s[k]? = some v → loK k ≤ v ∧ v ≤ hiK k
theorem styL_ok {s : List Int} (hl : s.length = 12) (h : okL s) : (styL s).ok = true := by
  match s, hl with
  | [x0, x1, x2, x3, x4, x5, x6, x7, x8, x9, x10, x11], _ =>
    have g0 := h 0 x0 rfl
    have g1 := h 1 x1 rfl
    have g2 := h 2 x2 rfl
    have g3 := h 3 x3 rfl
    have g4 := h 4 x4 rfl
    have g5 := h 5 x5 rfl
    have g6 := h 6 x6 rfl
    have g7 := h 7 x7 rfl
    have g8 := h 8 x8 rfl
    have g9 := h 9 x9 rfl
    have g10 := h 10 x10 rfl
    have g11 := h 11 x11 rfl
    simp [loK, hiK] at g0 g1 g2 g3 g4 g5 g6 g7 g8 g9 g10 g11
    have hMX : MX = 1099511627776 := rfl
    simp [styL, Sty.ok, isFrom, mx]
    omega
theorem float_ok2 (w v d : Int) (hw : isFrom w 1 mx = true) (hv : isFrom v 1 mx = true) (hd : d = 1 ∨ d = 2) : (ndS (.float w v d)).ok = true := by
  rcases hd with rfl | rfl <;> (simp [ndS, Nd.ok, isFrom] at hw hv ⊢; exact ⟨hw, hv⟩)
theorem ok_size {x : Nd} (h : x.kind = 1) (n : Int) : ({ x with size := n } : Nd).ok = x.ok := by simp [Nd.ok, h]
theorem rowsB_told : ∀ (m : Nat) (xs : List Shp) (pre post : List Nd), (toldL xs).length ≤ m → rowsB (pre ++ toldL xs ++ post) pre.length (pre.length + (toldL xs).length) = true := by
  intro m
  induction m with
  | zero =>
    intro xs pre post h
    have : (toldL xs).length = 0 := by omega
    rw [this]
    exact rowsB_nil _ _
  | succ m ih =>
    intro xs pre post h
    cases xs with
    | nil => simp only [toldL,List.length_nil,Nat.add_zero]; exact rowsB_nil _ _
    | cons x xs =>
      obtain ⟨hd, inner, ht, hsz, hk⟩ : ∃ (hd : Nd) (inner : List Shp), toldS x = hd :: toldL inner ∧ hd.size = 1 + ((toldL inner).length : Int) ∧ (hd.kind = 1 ∨ inner = []) := by
        cases x with
        | box w h => exact ⟨_, [], rfl, rfl, .inr rfl⟩
        | block s i => exact ⟨_, i, by rw [toldS], rfl, .inl rfl⟩
        | text ns => exact ⟨_, [], rfl, rfl, .inr rfl⟩
        | float w h d => exact ⟨_, [], rfl, rfl, .inr rfl⟩
      rw [toldL, ht] at h ⊢
      simp only [List.cons_append,List.length_cons,List.length_append] at h ⊢
      have hget : (pre ++ hd :: (toldL inner ++ toldL xs) ++ post)[pre.length]? = some hd := by simp
      rw [rowsB, dif_pos (by omega), hget]
      simp only
      rw [dif_pos (by omega)]
      have e1 : pre.length + hd.size.toNat = pre.length + 1 + (toldL inner).length := by omega
      rw [e1]
      have i1 := ih inner (pre ++ [hd]) (toldL xs ++ post) (by omega)
      have i2 := ih xs (pre ++ hd :: toldL inner) post (by omega)
      have l1 : pre ++ [hd] ++ toldL inner ++ (toldL xs ++ post) = pre ++ hd :: (toldL inner ++ toldL xs) ++ post := by simp
      have l2 : pre ++ hd :: toldL inner ++ toldL xs ++ post = pre ++ hd :: (toldL inner ++ toldL xs) ++ post := by simp
      rw [l1] at i1
      rw [l2] at i2
      simp only [List.length_append,List.length_cons,List.length_nil] at i1 i2
      rw [show pre.length + (0 + 1) + (toldL inner).length = pre.length + 1 + (toldL inner).length by omega, show pre.length + (0 + 1) = pre.length + 1 by omega] at i1
      rw [show pre.length + ((toldL inner).length + 1) + (toldL xs).length = pre.length + ((toldL inner).length + (toldL xs).length + 1) by omega, show pre.length + ((toldL inner).length + 1) = pre.length + 1 + (toldL inner).length by omega] at i2
      rw [i1, i2]
      rcases hk with hk | rfl
      · simp [hk]
      · have : hd.size ≤ 1 := by simp [toldL] at hsz; omega
        simp [this]
end Go.Vc
namespace Go.Vc
theorem rowsB_window (l : List Nd) (s k : Nat) : ∀ (m a e : Nat), e - a < m → e ≤ k → s + e ≤ l.length → rowsB ((l.drop s).take k) a e = rowsB l (s + a) (s + e)
  | 0, _, _, h, _, _ => by omega
  | m + 1, a, e, hm, hk, he => by
    rw [rowsB, rowsB]
    by_cases hae : a < e
    · rw [dif_pos hae, dif_pos (by omega)]
      have hg : ((l.drop s).take k)[a]? = l[s + a]? := by rw [List.getElem?_take, if_pos (by omega), List.getElem?_drop]
      rw [hg]
      cases hx : l[s + a]? with
      | none => rfl
      | some x =>
        simp only
        by_cases hc : 1 ≤ x.size ∧ x.size ≤ (e : Int) - a
        · rw [dif_pos hc, dif_pos (by omega)]
          rw [rowsB_window l s k m (a + 1) (a + x.size.toNat) (by omega) (by omega) (by omega), rowsB_window l s k m (a + x.size.toNat) e (by omega) hk he]
          rw [show s + (a + 1) = s + a + 1 by omega, show s + (a + x.size.toNat) = s + a + x.size.toNat by omega]
        · rw [dif_neg hc, dif_neg (by omega)]
    · rw [dif_neg hae, dif_neg (by omega)]
end Go.Vc
namespace Go.Vc
theorem isB_told {xs : List Shp} (h : ∀ x ∈ toldL xs, x.ok = true) : isB (toldL xs) = true := by
  have h2 := rowsB_told _ xs [] [] (Nat.le_refl _)
  simp only [List.nil_append,List.append_nil,List.length_nil,Nat.zero_add] at h2
  simp only [isB,Bool.and_eq_true,List.all_eq_true]
  exact ⟨h, h2⟩
end Go.Vc
namespace Go.Vc
theorem dec_step (u : Nat) (h : ¬ u < 10) : Lib.decDigits u = Lib.decDigits (u / 10) ++ [UInt8.ofNat (48 + u % 10)] := by rw [Lib.decDigits, dif_neg h]
theorem dec_ne (u : Nat) : Lib.decDigits u ≠ [] := by
  unfold Lib.decDigits
  split <;> simp
theorem dec_lim : ∀ (u : Nat), u ≤ 1099511627776 → (Lib.decDigits u).length ≤ 13 := by
  have step : ∀ (k u : Nat), u < 10 ^ (k + 1) → (Lib.decDigits u).length ≤ k + 1 := by
    intro k
    induction k with
    | zero => intro u h; rw [Lib.decDigits_one (by simpa using h)]; simp
    | succ k ih =>
      intro u h
      by_cases h9 : u < 10
      · rw [Lib.decDigits_one h9]; simp
      · rw [dec_step u h9]
        have := ih (u / 10) (by rw [Nat.pow_succ] at h; omega)
        simp; omega
  intro u hu
  exact step 12 u (by omega)
def dg (n : Int) : List UInt8 := Lib.decDigits n.toNat
theorem dg_itoa {n : Int} (h : 0 ≤ n) : Lib.itoa n = dg n := by unfold Lib.itoa dg; rw [if_neg (by omega)]
def inN (n : Int) : Prop := 0 ≤ n ∧ n ≤ 1099511627776
theorem dg_len {n : Int} (h : inN n) : (dg n).length ≤ 13 ∧ 1 ≤ (dg n).length := by
  refine ⟨dec_lim _ (by unfold inN at h; omega), ?_⟩
  have := dec_ne n.toNat
  unfold dg
  cases hd : Lib.decDigits n.toNat with
  | nil => exact absurd hd this
  | cons => simp
def Tk.at0 (t : Tk) : Tk := { t with at' := 0 }
section
end
abbrev nm (n : Int) : Tk := ⟨2, 0, n, 0⟩
def LexTo (T : List UInt8) (i : Nat) (ts : List Tk) (j : Nat) : Prop := ∃ l, l.map Tk.at0 = ts ∧ ofI T false i = (ofI T false j).app l
theorem LexTo.refl (T : List UInt8) (i : Nat) : LexTo T i [] i := ⟨[], rfl, (Res.app_nil _).symm⟩
theorem Res.app_app (a b : List Tk) (r : Res) : (r.app b).app a = r.app (a ++ b) := by cases r <;> simp [Res.app]
theorem LexTo.trans {T : List UInt8} {i j k : Nat} {a b : List Tk} (h1 : LexTo T i a j) (h2 : LexTo T j b k) : LexTo T i (a ++ b) k := by
  obtain ⟨l, rfl, e1⟩ := h1
  obtain ⟨m, rfl, e2⟩ := h2
  exact ⟨l ++ m, by simp, by rw [e1, e2, Res.app_app]⟩
end Go.Vc
namespace Go.Vc
def attX (s : List Int) : Nat → Nat → List UInt8
  | 0, _ => []
  | m + 1, j => (if s.getD j 0 = plainS.getD j 0 then [] else lettersB.getD j 0 :: dg (s.getD j 0)) ++ attX s m (j + 1)
def joinX : List Int → List UInt8
  | [] => []
  | [n] => dg n
  | n :: m :: l => dg n ++ 32 :: joinX (m :: l)
mutual
/-- a shape's text; shapes' texts, behind each so-and-so -/
def txtS : Shp → List UInt8
  | .box w h => 123 :: (joinX [w, h] ++ [125])
  | .block s inner => 91 :: (attX s 12 0 ++ (txtL [] inner ++ [93]))
  | .text ns => 40 :: (joinX ns ++ [41])
  | .float w h d => 60 :: (if d = 2 then 82 else 76) :: (joinX [w, h] ++ [62])
def txtL (e : List UInt8) : List Shp → List UInt8
  | [] => []
  | x :: l => txtS x ++ (e ++ txtL e l)
end
mutual
/-- numbers such as a reader takes -/
def okS : Shp → Prop
  | .box w h => (1 ≤ w ∧ w ≤ MX) ∧ (1 ≤ h ∧ h ≤ MX)
  | .block s inner => (s.length = 12 ∧ okL s) ∧ okSs inner
  | .text ns => ∃ a b c r, ns = a :: b :: c :: r ∧ (1 ≤ a ∧ a ≤ MX) ∧ (0 ≤ b ∧ b ≤ MX) ∧ (1 ≤ c ∧ c ≤ MX) ∧ ∀ n ∈ r, 1 ≤ n ∧ n ≤ MX
  | .float w h d => (1 ≤ w ∧ w ≤ MX) ∧ (1 ≤ h ∧ h ≤ MX) ∧ (d = 1 ∨ d = 2)
def okSs : List Shp → Prop
  | [] => True
  | x :: l => okS x ∧ okSs l
end
theorem inN_of {n : Int} (h : 1 ≤ n ∧ n ≤ MX) : inN n := by have hMX : MX = 1099511627776 := rfl; unfold inN; omega
theorem inN_of0 {n : Int} (h : 0 ≤ n ∧ n ≤ MX) : inN n := by have hMX : MX = 1099511627776 := rfl; unfold inN; omega
theorem okL_in {s : List Int} (h : okL s) (j : Nat) : inN (s.getD j 0) := by
  rw [List.getD_eq_getElem?_getD]
  cases hj : s[j]? with
  | none => simp [inN]
  | some v =>
    have := h j v hj
    have h1 : 0 ≤ loK j := by unfold loK; split <;> omega
    have h2 : hiK j ≤ MX := by unfold hiK; (repeat' split) <;> decide
    exact inN_of0 (by simp only [Option.getD_some]; omega)
end Go.Vc
namespace Go.Vc
def costN (x : Nd) : Nat := 400 + 14 * x.words.length
def costs : List Nd → Nat
  | [] => 0
  | x :: l => costN x + costs l
theorem costs_app (a b : List Nd) : costs (a ++ b) = costs a + costs b := by
  induction a with
  | nil => simp [costs]
  | cons x a ih => simp [costs, ih]; omega
theorem joinX_len {ns : List Int} (h : ∀ n ∈ ns, inN n) : (joinX ns).length ≤ 14 * ns.length := by
  induction ns with
  | nil => simp [joinX]
  | cons a ns ih =>
    have ha := (dg_len (h a (by simp))).1
    cases ns with
    | nil => simp [joinX]; omega
    | cons b ns =>
      have := ih (fun n hn => h n (by simp [hn]))
      simp only [joinX,List.length_append,List.length_cons] at this ⊢
      omega
theorem attX_len {s : List Int} (h : ∀ j, inN (s.getD j 0)) : ∀ (m j : Nat), (attX s m j).length ≤ 14 * m
  | 0, _ => by simp [attX]
  | m + 1, j => by
    have h1 := attX_len h m (j + 1)
    have h2 := (dg_len (h j)).1
    rw [attX]
    split <;> simp only [List.length_append,List.length_cons,List.length_nil] <;> omega
theorem okT_in {ns : List Int} (h : okS (.text ns)) : (∀ n ∈ ns, inN n) ∧ 2 ≤ ns.length := by
  obtain ⟨a, b, c, r, rfl, ha, hb, hc, hr⟩ := h
  refine ⟨fun n hn => ?_, by simp⟩
  simp only [List.mem_cons] at hn
  rcases hn with rfl | rfl | rfl | hn
  · exact inN_of ha
  · exact inN_of0 hb
  · exact inN_of hc
  · exact inN_of (hr _ hn)
mutual
theorem txtS_len : ∀ x : Shp, okS x → (txtS x).length + 1 ≤ costs (toldS x)
  | .box w h, hx => by
    have h1 := (dg_len (inN_of hx.1)).1
    have h2 := (dg_len (inN_of hx.2)).1
    simp [txtS, joinX, toldS, costs, costN]; omega
  | .float w h d, hx => by
    have h1 := (dg_len (inN_of hx.1)).1
    have h2 := (dg_len (inN_of hx.2.1)).1
    simp [txtS, joinX, toldS, costs, costN]; omega
  | .text ns, hx => by
    obtain ⟨h1, h2⟩ := okT_in hx
    have h3 := joinX_len h1
    simp [txtS, toldS, costs, costN, ndS]; omega
  | .block s inner, hx => by
    have h1 := txtL_len inner hx.2 [] (by simp)
    have h2 := attX_len (okL_in hx.1.2) 12 0
    simp [txtS, toldS, costs, costN, ndS]; omega
theorem txtL_len : ∀ xs : List Shp, okSs xs → ∀ e : List UInt8, e.length ≤ 1 → (txtL e xs).length ≤ costs (toldL xs)
  | [], _, _, _ => by simp [txtL]
  | x :: l, hx, e, he => by
    have h1 := txtS_len x hx.1
    have h2 := txtL_len l hx.2 e he
    simp only [txtL,toldL,costs_app,List.length_append]; omega
end
end Go.Vc
namespace Go.Vc
open Go.Proofs
section
variable {P : Program} {n : Nat} {st : St} {Q : St → Prop} {k : List It}
theorem Go.pcallG {i : VIns} {l : List VIns} {fx : VX} {xs : List VX} {f : FuncId} {caps : List V} {v : V} (hw : wantV st.s i.g = some true) (ho : i.op = .call fx xs)
    (hf : fx.ev st.s = .fn f caps) (hc : PFun P f (xs.map (·.ev st.s) ++ caps) v) (h : Go P n (.d l k) ⟨putO st.s i.dst v, st.σ⟩ Q) : Go P n (.d (i :: l) k) st Q := by
  refine T_true hw ?_
  rw [ho]
  exact ⟨f, caps, v, hf, fun σ1 _ => hc σ1, h⟩
end
theorem Contract.args {P : Program} {f : FuncId} {args args' : List V} {σ : Store} {Post : V → Store → Prop} (hw : WkL σ σ args args') (h : Contract P f args' σ Post) : Contract P f args σ Post :=
  ⟨h.1, fun μ w vals hs hr => h.2 μ w vals hs (WkL.all hs hw hr)⟩
end Go.Vc
namespace Go.Vc
open Go.Proofs
theorem btW : BT 87 := ⟨by kernel_rfl, by kernel_rfl⟩
theorem IsB.grow {T u8 : TypeId} {K σ σ' : Store} {id idn : Nat} {l : List UInt8} {o : Ob} (h : IsB T u8 K σ id l) (hs : SubStore σ σ') (hn : σ idn = none) (ho : σ' idn = some o) : IsB T u8 (upd K idn o) σ' id l := by
  obtain ⟨hK, hn0, a, buf, hid, ha, hout⟩ := h
  have hne : id ≠ idn := by rintro rfl; rw [hid] at hn; cases hn
  refine ⟨fun i x hx => ?_, by rw [upd_ne hne]; exact hn0, a, buf, hs _ _ hid, ha, ?_⟩
  · by_cases hi : i = idn
    · subst hi; rw [upd_same] at hx; rw [← hx]; exact ho
    · rw [upd_ne hi] at hx; exact hs _ _ (hK _ _ hx)
  · rcases hout with h1 | ⟨i, h1, h2, h3⟩
    · exact .inl h1
    · have hi1 : i ≠ id := by rintro rfl; simp [Vc.upd] at h3
      have hi2 : i ≠ idn := by rintro rfl; rw [h2] at hn; cases hn
      refine .inr ⟨i, h1, hs _ _ h2, ?_⟩
      rw [upd_ne hi1] at h3 ⊢
      rw [upd_ne hi2]; exact h3
theorem joinX_take (ns : List Int) : ∀ (i : Nat) (h : i < ns.length), joinX (ns.take (i + 1)) = joinX (ns.take i) ++ ((if 0 < i then [32] else []) ++ dg ns[i]) := by
  induction ns with
  | nil => intro i h; simp at h
  | cons a ns ih =>
    intro i h
    cases i with
    | zero => simp [joinX]
    | succ i =>
      have h' : i < ns.length := by simpa using h
      have := ih i h'
      cases ns with
      | nil => simp at h'
      | cons b ns =>
        rw [List.take_succ_cons, List.take_succ_cons, joinX]
        rw [List.take_succ_cons] at this
        rw [this]
        cases i with
        | zero => simp [joinX]
        | succ i => simp [joinX]
set_option maxRecDepth 100000 in
theorem numbers_c {K σ : Store} {id idn n : Nat} {l : List UInt8} (ns : List Int) (hns : ∀ n ∈ ns, inN n) (h : IsB 87 5 K σ id l) (hn : n = ns.length) (hK : K idn = some ⟨3, 1, ns.map vI⟩) (hl : l.length + 14 * ns.length ≤ 1000000000) :
    Contract Tryd.prog 85 [.ptr id 0 0, .own idn 0 n] σ fun r σ' => r = .tup [] ∧ IsB 87 5 K σ' id (l ++ joinX ns) := by
  subst hn
  refine Contract.of_runs Tryd.func85 e85 k85 (by simp [c85]) ?_
  refine Runs.mix 9 ?_
  (refine Runs.of_step Orc.nothing 300 ?_; simp -implicitDefEqProofs only [BB,seval,← decide_not,okind,vpre,vpure,intBin,intPre,strBin,strPre,popTo,argSlots,fldV,fldAV,subCells,idxVV,idxAAV,idxSV,sliceV,sliceSV,boundV,szIs,storeOp,storeS,setRowV,eff,extV,buildV,splice,eqSV,fitsL,eqCells,eqCell,minmaxV,capV,binBV,nilCheckV,bytesV,V.cells,V.stays,Orc.nothing,c85])
  refine Runs.loop (fun m st => ∃ i : Nat, i ≤ ns.length ∧ m = ns.length - i ∧ IsB 87 5 K st.σ id (l ++ joinX (ns.take i)) ∧ st.s 0 = .ptr id 0 0 ∧ st.s 6 = .own idn 0 ns.length ∧ st.s 7 = vI ns.length ∧ st.s 8 = vI i) ns.length ?_ ?_
  · exact ⟨0, by omega, by omega, by simpa [joinX] using h, rfl, rfl, rfl, rfl⟩
  · rintro m ⟨s, σ1⟩ ⟨i, hi, rfl, hB, h0, h6, h7, h8⟩
    simp only at h0 h6 h7 h8 hB
    refine Runs.mix 9 ?_
    have hidn := hB.sub _ _ hK
    by_cases hlt : i < ns.length
    · have hlt' : ((i : Int) < ((ns.length : Nat) : Int)) = True := by simp; omega
      have hin := hns _ (List.getElem_mem hlt)
      have hjl : (joinX (ns.take i)).length ≤ 14 * i := by
        have := joinX_len (ns := ns.take i) (fun n hn => hns n (List.mem_of_mem_take hn))
        rw [List.length_take, Nat.min_eq_left (by omega)] at this; exact this
      have hd := (dg_len hin).1
      have ht := joinX_take ns i hlt
      have hin' := hin
      unfold inN at hin'
      have hidx : idxAV σ1 1 (.own idn 0 ns.length) (vI i) = some (.ptr idn i 0) := by simp [idxAV, hidn, hlt]
      have hld : loadV σ1 false 1 (.ptr idn i 0) = some (vI ns[i]) := by simp [loadV, hidn, hlt, V.cells]
      have r1 : inR .i64 ((i : Int) + 1) := inR_i64 (by omega) (by omega)
      generalize ns[i] = v at *
      have hit : Lib.itoa v = dg v := dg_itoa (by omega)
      by_cases hi0 : 0 < i
      · have hg : ((0 : Int) < (i : Int)) = True := by simp; omega
        rw [if_pos hi0] at ht
        (refine Runs.of_step Orc.nothing 300 ?_; simp -implicitDefEqProofs only [BB,seval,← decide_not,okind,vpre,vpure,intBin,intPre,strBin,strPre,popTo,argSlots,fldV,fldAV,subCells,idxVV,idxAAV,idxSV,sliceV,sliceSV,boundV,szIs,storeOp,storeS,setRowV,eff,extV,buildV,splice,eqSV,fitsL,eqCells,eqCell,minmaxV,capV,binBV,nilCheckV,bytesV,V.cells,V.stays,Orc.nothing,h0,h6,h7,h8,hlt',hidx,hld,hg])
        refine Runs.call rfl rfl rfl (wbyte_c btW 32 32 rfl hB (by simp only [List.length_append]; omega)) ?_
        rintro r σ2 ⟨rfl, hB2⟩
        (refine Runs.of_step Orc.nothing 300 ?_; simp -implicitDefEqProofs only [BB,seval,← decide_not,okind,vpre,vpure,intBin,intPre,strBin,strPre,popTo,argSlots,fldV,fldAV,subCells,idxVV,idxAAV,idxSV,sliceV,sliceSV,boundV,szIs,storeOp,storeS,setRowV,eff,extV,buildV,splice,eqSV,fitsL,eqCells,eqCell,minmaxV,capV,binBV,nilCheckV,bytesV,V.cells,V.stays,Orc.nothing,h0,h6,h7,h8])
        refine Go.pcallG rfl rfl rfl (itoaN_c v (by omega) (by omega)) ?_
        (refine Go.of_step Orc.nothing 300 _ _ ?_; simp -implicitDefEqProofs only [BB,seval,← decide_not,okind,vpre,vpure,intBin,intPre,strBin,strPre,popTo,argSlots,fldV,fldAV,subCells,idxVV,idxAAV,idxSV,sliceV,sliceSV,boundV,szIs,storeOp,storeS,setRowV,eff,extV,buildV,splice,eqSV,fitsL,eqCells,eqCell,minmaxV,capV,binBV,nilCheckV,bytesV,V.cells,V.stays,Orc.nothing,h0,h6,h7,h8])
        refine Runs.call rfl rfl rfl (wstr_c btW (Lib.itoa v) hB2 (by rw [hit]; simp only [List.length_append,List.length_cons,List.length_nil]; omega)) ?_
        rintro r σ3 ⟨rfl, hB3⟩
        (refine Runs.of_step Orc.nothing 300 ?_; simp -implicitDefEqProofs only [BB,seval,← decide_not,okind,vpre,vpure,intBin,intPre,strBin,strPre,popTo,argSlots,fldV,fldAV,subCells,idxVV,idxAAV,idxSV,sliceV,sliceSV,boundV,szIs,storeOp,storeS,setRowV,eff,extV,buildV,splice,eqSV,fitsL,eqCells,eqCell,minmaxV,capV,binBV,nilCheckV,bytesV,V.cells,V.stays,Orc.nothing,h0,h6,h7,h8,r1])
        refine ⟨_, by omega, i + 1, by omega, rfl, ?_, by simp⟩
        rw [ht, ← hit]
        simpa using hB3
      · have hi00 : i = 0 := by omega
        have hg : ((0 : Int) < (i : Int)) = False := by simp; omega
        rw [if_neg hi0] at ht
        (refine Runs.of_step Orc.nothing 300 ?_; simp -implicitDefEqProofs only [BB,seval,← decide_not,okind,vpre,vpure,intBin,intPre,strBin,strPre,popTo,argSlots,fldV,fldAV,subCells,idxVV,idxAAV,idxSV,sliceV,sliceSV,boundV,szIs,storeOp,storeS,setRowV,eff,extV,buildV,splice,eqSV,fitsL,eqCells,eqCell,minmaxV,capV,binBV,nilCheckV,bytesV,V.cells,V.stays,Orc.nothing,h0,h6,h7,h8,hlt',hidx,hld,hg])
        refine Go.pcallG rfl rfl rfl (itoaN_c v (by omega) (by omega)) ?_
        (refine Go.of_step Orc.nothing 300 _ _ ?_; simp -implicitDefEqProofs only [BB,seval,← decide_not,okind,vpre,vpure,intBin,intPre,strBin,strPre,popTo,argSlots,fldV,fldAV,subCells,idxVV,idxAAV,idxSV,sliceV,sliceSV,boundV,szIs,storeOp,storeS,setRowV,eff,extV,buildV,splice,eqSV,fitsL,eqCells,eqCell,minmaxV,capV,binBV,nilCheckV,bytesV,V.cells,V.stays,Orc.nothing,h0,h6,h7,h8])
        refine Runs.call rfl rfl rfl (wstr_c btW (Lib.itoa v) hB (by rw [hit]; simp only [List.length_append]; omega)) ?_
        rintro r σ3 ⟨rfl, hB3⟩
        (refine Runs.of_step Orc.nothing 300 ?_; simp -implicitDefEqProofs only [BB,seval,← decide_not,okind,vpre,vpure,intBin,intPre,strBin,strPre,popTo,argSlots,fldV,fldAV,subCells,idxVV,idxAAV,idxSV,sliceV,sliceSV,boundV,szIs,storeOp,storeS,setRowV,eff,extV,buildV,splice,eqSV,fitsL,eqCells,eqCell,minmaxV,capV,binBV,nilCheckV,bytesV,V.cells,V.stays,Orc.nothing,h0,h6,h7,h8,r1])
        refine ⟨_, by omega, i + 1, by omega, rfl, ?_, by simp⟩
        rw [ht, ← hit]
        simpa using hB3
    · have hi' : i = ns.length := by omega
      subst hi'
      have hlt' : (((ns.length : Nat) : Int) < ((ns.length : Nat) : Int)) = False := by simp
      rw [List.take_length] at hB
      (refine Runs.of_step Orc.nothing 300 ?_; simp -implicitDefEqProofs only [BB,seval,← decide_not,okind,vpre,vpure,intBin,intPre,strBin,strPre,popTo,argSlots,fldV,fldAV,subCells,idxVV,idxAAV,idxSV,sliceV,sliceSV,boundV,szIs,storeOp,storeS,setRowV,eff,extV,buildV,splice,eqSV,fitsL,eqCells,eqCell,minmaxV,capV,binBV,nilCheckV,bytesV,V.cells,V.stays,Orc.nothing,h0,h6,h7,h8,hlt'])
      exact ⟨_, _, SubStore.refl _, Wk.refl (SubStore.refl _) _, rfl, hB⟩
end Go.Vc
namespace Go.Vc
open Go.Proofs
def attV (s : List Int) (j : Nat) : List V := [.int .u8 (lettersB.getD j 0).toNat, vI (s.getD j 0), vI (plainS.getD j 0)]
def tabV (s : List Int) : List V := attV s 0 ++ (attV s 1 ++ (attV s 2 ++ (attV s 3 ++ (attV s 4 ++ (attV s 5 ++ (attV s 6 ++ (attV s 7 ++ (attV s 8 ++ (attV s 9 ++ (attV s 10 ++ attV s 11))))))))))
set_option maxRecDepth 100000 in
set_option maxHeartbeats 1000000 in
theorem table_c (s : List Int) (h : s.length = 12) : PFun Tryd.prog 84 [.agg (s.map vI)] (.agg (tabV s)) := fun σ => by
  obtain ⟨a0, a1, a2, a3, a4, a5, a6, a7, a8, a9, a10, a11, rfl⟩ : ∃ a0 a1 a2 a3 a4 a5 a6 a7 a8 a9 a10 a11, s = [a0, a1, a2, a3, a4, a5, a6, a7, a8, a9, a10, a11] := by
    match s, h with
    | [a0, a1, a2, a3, a4, a5, a6, a7, a8, a9, a10, a11], _ => exact ⟨_, _, _, _, _, _, _, _, _, _, _, _, rfl⟩
  refine Contract.of_runs Tryd.func84 e84 k84 (by simp [c84]) ?_
  refine Runs.mix 9 ?_
  (refine Runs.of_step Orc.nothing 300 ?_; simp -implicitDefEqProofs only [BB,seval,← decide_not,okind,vpre,vpure,intBin,intPre,strBin,strPre,popTo,argSlots,fldV,fldAV,subCells,idxVV,idxAAV,idxSV,sliceV,sliceSV,boundV,szIs,storeOp,storeS,setRowV,eff,extV,buildV,splice,eqSV,fitsL,eqCells,eqCell,minmaxV,capV,binBV,nilCheckV,bytesV,V.cells,V.stays,Orc.nothing,c84])
  refine effR_new fun id1 σ1 s1 r1 f1 => ?_
  simp -implicitDefEqProofs only [BB,seval,← decide_not,okind,vpre,vpure,intBin,intPre,strBin,strPre,popTo,argSlots,fldV,fldAV,subCells,idxVV,idxAAV,idxSV,sliceV,sliceSV,boundV,szIs,storeOp,storeS,setRowV,eff,extV,buildV,splice,eqSV,fitsL,eqCells,eqCell,minmaxV,capV,binBV,nilCheckV,bytesV,V.cells,V.stays,r1]
  refine effR_new fun id2 σ2 s2 r2 f2 => ?_
  have r1' := s2 _ _ r1
  have n12 : id1 ≠ id2 := ne_new r1 f2
  simp -implicitDefEqProofs only [BB,seval,← decide_not,okind,vpre,vpure,intBin,intPre,strBin,strPre,popTo,argSlots,fldV,fldAV,subCells,idxVV,idxAAV,idxSV,sliceV,sliceSV,boundV,szIs,storeOp,storeS,setRowV,eff,extV,buildV,splice,eqSV,fitsL,eqCells,eqCell,minmaxV,capV,binBV,nilCheckV,bytesV,V.cells,V.stays,r1',r2]
  refine Runs.pcall rfl rfl rfl (plain_c _) ?_
  (refine Runs.of_step Orc.nothing 300 ?_; simp -implicitDefEqProofs only [BB,seval,← decide_not,okind,vpre,vpure,intBin,intPre,strBin,strPre,popTo,argSlots,fldV,fldAV,subCells,idxVV,idxAAV,idxSV,sliceV,sliceSV,boundV,szIs,storeOp,storeS,setRowV,eff,extV,buildV,splice,eqSV,fitsL,eqCells,eqCell,minmaxV,capV,binBV,nilCheckV,bytesV,V.cells,V.stays,Orc.nothing,r1',r2])
  refine effR_new fun id3 σ3 s3 r3 f3 => ?_
  have r1'' := s3 _ _ r1'
  have r2' := s3 _ _ r2
  have n13 : id1 ≠ id3 := ne_new r1' f3
  have n23 : id2 ≠ id3 := ne_new r2 f3
  simp -implicitDefEqProofs only [BB,seval,← decide_not,okind,vpre,vpure,intBin,intPre,strBin,strPre,popTo,argSlots,fldV,fldAV,subCells,idxVV,idxAAV,idxSV,sliceV,sliceSV,boundV,szIs,storeOp,storeS,setRowV,eff,extV,buildV,splice,eqSV,fitsL,eqCells,eqCell,minmaxV,capV,binBV,nilCheckV,bytesV,V.cells,V.stays,r1'',r2',r3,upd_ne n13,upd_ne n23]
  exact .pure (((s1.trans (s2.trans s3)).updK ((s1.trans s2).none f3)).updK (s1.none f2)) rfl
theorem tab_idx (s : List Int) (j : Nat) (hj : j < 12) : idxVV true 12 3 (.agg (tabV s)) (vI j) = some (.agg (attV s j)) := by
  match j, hj with
  | 0, _ | 1, _ | 2, _ | 3, _ | 4, _ | 5, _ | 6, _ | 7, _ | 8, _ | 9, _ | 10, _ | 11, _ => rfl
set_option maxRecDepth 100000 in
theorem begin_c {K σ : Store} {id : Nat} {l : List UInt8} (s : List Int) (hs : s.length = 12) (hin : ∀ j, inN (s.getD j 0)) (h : IsB 87 5 K σ id l) (hl : l.length ≤ 900000000 - 1000) :
    Contract Tryd.prog 52 [.ptr id 0 0, .agg (s.map vI)] σ fun r σ' => r = .tup [] ∧ IsB 87 5 K σ' id (l ++ (91 :: attX s 12 0)) := by
  have hcl : (s.map vI).length = 12 := by simp [hs]
  have hst : (s.map vI).all V.stays = true := by simp [V.stays]
  refine Contract.of_runs Tryd.func52 e52 k52 (by simp [c52]) ?_
  refine Runs.mix 13 ?_
  (refine Runs.of_step Orc.nothing 300 ?_; simp -implicitDefEqProofs only [BB,seval,← decide_not,okind,vpre,vpure,intBin,intPre,strBin,strPre,popTo,argSlots,fldV,fldAV,subCells,idxVV,idxAAV,idxSV,sliceV,sliceSV,boundV,szIs,storeOp,storeS,setRowV,eff,extV,buildV,splice,eqSV,fitsL,eqCells,eqCell,minmaxV,capV,binBV,nilCheckV,bytesV,V.cells,V.stays,Orc.nothing,c52,hcl,hst])
  refine effR_new fun id1 σ1 s1 r1 f1 => ?_
  simp -implicitDefEqProofs only [BB,seval,← decide_not,okind,vpre,vpure,intBin,intPre,strBin,strPre,popTo,argSlots,fldV,fldAV,subCells,idxVV,idxAAV,idxSV,sliceV,sliceSV,boundV,szIs,storeOp,storeS,setRowV,eff,extV,buildV,splice,eqSV,fitsL,eqCells,eqCell,minmaxV,capV,binBV,nilCheckV,bytesV,V.cells,V.stays,r1,hcl]
  refine Runs.call rfl rfl rfl (wbyte_c btW 91 91 rfl (h.grow s1 f1 r1) (by omega)) ?_
  rintro r σ2 ⟨rfl, hB1⟩
  have hr2 := hB1.sub _ _ upd_same
  have hB2 := hB1.less ((SubStore.refl K).upd_new (h.sub.none f1))
  (refine Runs.of_step Orc.nothing 300 ?_; simp -implicitDefEqProofs only [BB,seval,← decide_not,okind,vpre,vpure,intBin,intPre,strBin,strPre,popTo,argSlots,fldV,fldAV,subCells,idxVV,idxAAV,idxSV,sliceV,sliceSV,boundV,szIs,storeOp,storeS,setRowV,eff,extV,buildV,splice,eqSV,fitsL,eqCells,eqCell,minmaxV,capV,binBV,nilCheckV,bytesV,V.cells,V.stays,Orc.nothing,hr2,hcl])
  refine Runs.pcall rfl rfl rfl (table_c s hs _) ?_
  (refine Runs.of_step Orc.nothing 300 ?_; simp -implicitDefEqProofs only [BB,seval,← decide_not,okind,vpre,vpure,intBin,intPre,strBin,strPre,popTo,argSlots,fldV,fldAV,subCells,idxVV,idxAAV,idxSV,sliceV,sliceSV,boundV,szIs,storeOp,storeS,setRowV,eff,extV,buildV,splice,eqSV,fitsL,eqCells,eqCell,minmaxV,capV,binBV,nilCheckV,bytesV,V.cells,V.stays,Orc.nothing])
  refine Runs.loop (fun m st => ∃ (j : Nat) (dn : List UInt8), j ≤ 12 ∧ m = 12 - j ∧ IsB 87 5 K st.σ id (l ++ (91 :: dn)) ∧ dn ++ attX s (12 - j) j = attX s 12 0 ∧ st.s 0 = .ptr id 0 0 ∧ st.s 11 = .agg (tabV s) ∧ st.s 12 = vI j) 12 ?_ ?_
  · exact ⟨0, [], by omega, by omega, by simpa using hB2, by simp, rfl, rfl, rfl⟩
  · rintro m ⟨S, σ3⟩ ⟨j, dn, hj, rfl, hB, hdn, h0, h11, h12⟩
    simp only at h0 h11 h12 hB
    refine Runs.mix 13 ?_
    have hlen := attX_len hin 12 0
    rw [← hdn, List.length_append] at hlen
    by_cases hlt : j < 12
    · have hlt' : ((j : Int) < 12) = True := by simp; omega
      have hix := tab_idx s j hlt
      have r2 : inR .i64 ((j : Int) + 1) := inR_i64 (by omega) (by omega)
      have hv := hin j
      rw [show 12 - j = (12 - (j + 1)) + 1 by omega, attX] at hdn
      unfold attV at hix
      generalize s.getD j 0 = a at *
      generalize plainS.getD j 0 = p at *
      generalize lettersB.getD j 0 = u at *
      (refine Runs.of_step Orc.nothing 300 ?_; simp -implicitDefEqProofs only [BB,seval,← decide_not,okind,vpre,vpure,intBin,intPre,strBin,strPre,popTo,argSlots,fldV,fldAV,subCells,idxAAV,idxSV,sliceV,sliceSV,boundV,szIs,storeOp,storeS,setRowV,eff,extV,buildV,splice,eqSV,fitsL,eqCells,eqCell,minmaxV,capV,binBV,nilCheckV,bytesV,V.cells,V.stays,Orc.nothing,h0,h11,h12,hlt',hix])
      refine effR_new fun id5 σ5 s5 r5 f5 => ?_
      by_cases hq : a = p
      · rw [if_pos hq] at hdn
        have hq' : (a ≠ p) = False := by simp [hq]
        simp -implicitDefEqProofs only [BB,seval,← decide_not,okind,vpre,vpure,intBin,intPre,strBin,strPre,popTo,argSlots,fldV,fldAV,subCells,idxVV,idxAAV,idxSV,sliceV,sliceSV,boundV,szIs,storeOp,storeS,setRowV,eff,extV,buildV,splice,eqSV,fitsL,eqCells,eqCell,minmaxV,capV,binBV,nilCheckV,bytesV,V.cells,V.stays,r5,h0,h11,h12,hq',r2]
        refine ⟨_, by omega, j + 1, dn, by omega, rfl, hB.mono (s5.updK f5), ?_, by simp⟩
        rw [← hdn]; simp
      · rw [if_neg hq] at hdn
        have hq' : (a ≠ p) = True := by simp [hq]
        simp -implicitDefEqProofs only [BB,seval,← decide_not,okind,vpre,vpure,intBin,intPre,strBin,strPre,popTo,argSlots,fldV,fldAV,subCells,idxVV,idxAAV,idxSV,sliceV,sliceSV,boundV,szIs,storeOp,storeS,setRowV,eff,extV,buildV,splice,eqSV,fitsL,eqCells,eqCell,minmaxV,capV,binBV,nilCheckV,bytesV,V.cells,V.stays,r5,h0,h11,h12,hq',r2]
        have hgl : (l ++ 91 :: dn).length ≤ 300000000 + 600000000 := by simp only [List.length_append,List.length_cons]; omega
        refine Runs.call rfl rfl rfl (wbyte_c btW u.toNat u rfl (hB.grow (s5.updK f5) f5 upd_same) (by omega)) ?_
        rintro r σ6 ⟨rfl, hB6⟩
        have hr6 := hB6.sub _ _ upd_same
        have hB6' := hB6.less ((SubStore.refl K).upd_new (hB.sub.none f5))
        (refine Runs.of_step Orc.nothing 300 ?_; simp -implicitDefEqProofs only [BB,seval,← decide_not,okind,vpre,vpure,intBin,intPre,strBin,strPre,popTo,argSlots,fldV,fldAV,subCells,idxVV,idxAAV,idxSV,sliceV,sliceSV,boundV,szIs,storeOp,storeS,setRowV,eff,extV,buildV,splice,eqSV,fitsL,eqCells,eqCell,minmaxV,capV,binBV,nilCheckV,bytesV,V.cells,V.stays,Orc.nothing,hr6,h0,h11,h12,r2])
        refine effR_new fun id7 σ7 s7 r7 f7 => ?_
        simp -implicitDefEqProofs only [BB,seval,← decide_not,okind,vpre,vpure,intBin,intPre,strBin,strPre,popTo,argSlots,fldV,fldAV,subCells,idxVV,idxAAV,idxSV,sliceV,sliceSV,boundV,szIs,storeOp,storeS,setRowV,eff,extV,buildV,splice,eqSV,fitsL,eqCells,eqCell,minmaxV,capV,binBV,nilCheckV,bytesV,V.cells,V.stays,r7,hr6,h0,h11,h12,r2]
        have hB7 := hB6'.grow s7 f7 r7
        refine Runs.call rfl rfl rfl (numbers_c [a] (by simpa using hv) hB7 rfl (by rw [upd_same]; rfl) (by simp only [List.length_append,List.length_cons,List.length_nil]; simp only [List.length_append,List.length_cons] at hgl; omega)) ?_
        rintro r σ8 ⟨rfl, hB8⟩
        have hB9 := hB8.less ((SubStore.refl K).upd_new (hB6'.sub.none f7))
        (refine Runs.of_step Orc.nothing 300 ?_; simp -implicitDefEqProofs only [BB,seval,← decide_not,okind,vpre,vpure,intBin,intPre,strBin,strPre,popTo,argSlots,fldV,fldAV,subCells,idxVV,idxAAV,idxSV,sliceV,sliceSV,boundV,szIs,storeOp,storeS,setRowV,eff,extV,buildV,splice,eqSV,fitsL,eqCells,eqCell,minmaxV,capV,binBV,nilCheckV,bytesV,V.cells,V.stays,Orc.nothing,h0,h11,h12,r2])
        refine ⟨_, by omega, j + 1, dn ++ (u :: dg a), by omega, rfl, ?_, ?_, by simp⟩
        · simpa [joinX] using hB9
        · rw [← hdn]; simp
    · have hj' : j = 12 := by omega
      subst hj'
      (refine Runs.of_step Orc.nothing 300 ?_; simp -implicitDefEqProofs only [BB,seval,← decide_not,okind,vpre,vpure,intBin,intPre,strBin,strPre,popTo,argSlots,fldV,fldAV,subCells,idxVV,idxAAV,idxSV,sliceV,sliceSV,boundV,szIs,storeOp,storeS,setRowV,eff,extV,buildV,splice,eqSV,fitsL,eqCells,eqCell,minmaxV,capV,binBV,nilCheckV,bytesV,V.cells,V.stays,Orc.nothing,h0,h11,h12])
      refine ⟨_, _, SubStore.refl _, Wk.refl (SubStore.refl _) _, rfl, ?_⟩
      rw [← hdn]; simpa [attX] using hB
end Go.Vc
namespace Go.Vc
open Go.Proofs
theorem nodeB_c {K σ : Store} {id : Nat} {l : List UInt8} (x : Nd) (hk : x.kind = 3) (hw : inN x.w) (hh : inN x.h) (h : IsB 87 5 K σ id l) (hl : l.length ≤ 900000000) :
    Contract Tryd.prog 54 [.ptr id 0 0, encN x] σ fun r σ' => r = .tup [] ∧ IsB 87 5 K σ' id (l ++ (123 :: (joinX [x.w, x.h] ++ [125]))) := by
  have hJ := joinX_len (ns := [x.w, x.h]) (by simp [hw, hh])
  refine Contract.of_runs Tryd.func54 e54 k54 (by simp [c54]) ?_
  refine Runs.mix 9 ?_
  (refine Runs.of_step Orc.nothing 300 ?_; simp -implicitDefEqProofs only [BB,seval,← decide_not,okind,vpre,vpure,intBin,intPre,strBin,strPre,popTo,argSlots,fldV,fldAV,subCells,idxVV,idxAAV,idxSV,sliceV,sliceSV,boundV,szIs,storeOp,storeS,setRowV,eff,extV,buildV,splice,eqSV,fitsL,eqCells,eqCell,minmaxV,capV,binBV,nilCheckV,bytesV,V.cells,V.stays,Orc.nothing,c54,encN,Nd.cells,encI])
  refine effR_new fun id1 σ1 s1 r1 f1 => ?_
  simp -implicitDefEqProofs only [BB,seval,← decide_not,okind,vpre,vpure,intBin,intPre,strBin,strPre,popTo,argSlots,fldV,fldAV,subCells,idxVV,idxAAV,idxSV,sliceV,sliceSV,boundV,szIs,storeOp,storeS,setRowV,eff,extV,buildV,splice,eqSV,fitsL,eqCells,eqCell,minmaxV,capV,binBV,nilCheckV,bytesV,V.cells,V.stays,r1,hk]
  refine Runs.call rfl rfl rfl (wbyte_c btW 123 123 rfl (h.grow s1 f1 r1) (by omega)) ?_
  rintro r σ2 ⟨rfl, hB1⟩
  have hr2 := hB1.sub _ _ upd_same
  have hB2 := hB1.less ((SubStore.refl K).upd_new (h.sub.none f1))
  (refine Runs.of_step Orc.nothing 300 ?_; simp -implicitDefEqProofs only [BB,seval,← decide_not,okind,vpre,vpure,intBin,intPre,strBin,strPre,popTo,argSlots,fldV,fldAV,subCells,idxVV,idxAAV,idxSV,sliceV,sliceSV,boundV,szIs,storeOp,storeS,setRowV,eff,extV,buildV,splice,eqSV,fitsL,eqCells,eqCell,minmaxV,capV,binBV,nilCheckV,bytesV,V.cells,V.stays,Orc.nothing,hr2])
  refine effR_new fun id3 σ3 s3 r3 f3 => ?_
  simp -implicitDefEqProofs only [BB,seval,← decide_not,okind,vpre,vpure,intBin,intPre,strBin,strPre,popTo,argSlots,fldV,fldAV,subCells,idxVV,idxAAV,idxSV,sliceV,sliceSV,boundV,szIs,storeOp,storeS,setRowV,eff,extV,buildV,splice,eqSV,fitsL,eqCells,eqCell,minmaxV,capV,binBV,nilCheckV,bytesV,V.cells,V.stays,r3,hr2]
  refine Runs.call rfl rfl rfl (numbers_c [x.w, x.h] (by simp [hw, hh]) (hB2.grow s3 f3 r3) rfl (by rw [upd_same]; rfl) (by simp only [List.length_append,List.length_cons,List.length_nil]; omega)) ?_
  rintro r σ4 ⟨rfl, hB4⟩
  have hB5 := hB4.less ((SubStore.refl K).upd_new (hB2.sub.none f3))
  (refine Runs.of_step Orc.nothing 300 ?_; simp -implicitDefEqProofs only [BB,seval,← decide_not,okind,vpre,vpure,intBin,intPre,strBin,strPre,popTo,argSlots,fldV,fldAV,subCells,idxVV,idxAAV,idxSV,sliceV,sliceSV,boundV,szIs,storeOp,storeS,setRowV,eff,extV,buildV,splice,eqSV,fitsL,eqCells,eqCell,minmaxV,capV,binBV,nilCheckV,bytesV,V.cells,V.stays,Orc.nothing])
  refine Runs.call rfl rfl rfl (wbyte_c btW 125 125 rfl hB5 (by simp only [List.length_append,List.length_cons,List.length_nil] at hJ ⊢; omega)) ?_
  rintro r σ6 ⟨rfl, hB6⟩
  (refine Runs.of_step Orc.nothing 300 ?_; simp -implicitDefEqProofs only [BB,seval,← decide_not,okind,vpre,vpure,intBin,intPre,strBin,strPre,popTo,argSlots,fldV,fldAV,subCells,idxVV,idxAAV,idxSV,sliceV,sliceSV,boundV,szIs,storeOp,storeS,setRowV,eff,extV,buildV,splice,eqSV,fitsL,eqCells,eqCell,minmaxV,capV,binBV,nilCheckV,bytesV,V.cells,V.stays,Orc.nothing])
  refine ⟨_, _, SubStore.refl _, Wk.refl (SubStore.refl _) _, rfl, ?_⟩
  simpa using hB6
theorem nodeF_c {K σ : Store} {id : Nat} {l : List UInt8} (x : Nd) (hk : x.kind = 4) (hs : x.side = 1 ∨ x.side = 2) (hw : inN x.w) (hh : inN x.h) (h : IsB 87 5 K σ id l) (hl : l.length ≤ 900000000) :
    Contract Tryd.prog 54 [.ptr id 0 0, encN x] σ fun r σ' => r = .tup [] ∧ IsB 87 5 K σ' id (l ++ (60 :: (if x.side = 2 then 82 else 76) :: (joinX [x.w, x.h] ++ [62]))) := by
  have hJ := joinX_len (ns := [x.w, x.h]) (by simp [hw, hh])
  refine Contract.of_runs Tryd.func54 e54 k54 (by simp [c54]) ?_
  refine Runs.mix 9 ?_
  rcases hs with hs | hs
  all_goals
    (refine Runs.of_step Orc.nothing 300 ?_; simp -implicitDefEqProofs only [BB,seval,← decide_not,okind,vpre,vpure,intBin,intPre,strBin,strPre,popTo,argSlots,fldV,fldAV,subCells,idxVV,idxAAV,idxSV,sliceV,sliceSV,boundV,szIs,storeOp,storeS,setRowV,eff,extV,buildV,splice,eqSV,fitsL,eqCells,eqCell,minmaxV,capV,binBV,nilCheckV,bytesV,V.cells,V.stays,Orc.nothing,c54,encN,Nd.cells,encI])
    refine effR_new fun id1 σ1 s1 r1 f1 => ?_
    simp -implicitDefEqProofs only [BB,seval,← decide_not,okind,vpre,vpure,intBin,intPre,strBin,strPre,popTo,argSlots,fldV,fldAV,subCells,idxVV,idxAAV,idxSV,sliceV,sliceSV,boundV,szIs,storeOp,storeS,setRowV,eff,extV,buildV,splice,eqSV,fitsL,eqCells,eqCell,minmaxV,capV,binBV,nilCheckV,bytesV,V.cells,V.stays,r1,hk,hs]
    refine Runs.call rfl rfl rfl (wstr_c btW _ (h.grow s1 f1 r1) (by simp only [List.length_append,List.length_cons,List.length_nil]; omega)) ?_
    rintro r σ2 ⟨rfl, hB1⟩
    have hr2 := hB1.sub _ _ upd_same
    have hB2 := hB1.less ((SubStore.refl K).upd_new (h.sub.none f1))
    (refine Runs.of_step Orc.nothing 300 ?_; simp -implicitDefEqProofs only [BB,seval,← decide_not,okind,vpre,vpure,intBin,intPre,strBin,strPre,popTo,argSlots,fldV,fldAV,subCells,idxVV,idxAAV,idxSV,sliceV,sliceSV,boundV,szIs,storeOp,storeS,setRowV,eff,extV,buildV,splice,eqSV,fitsL,eqCells,eqCell,minmaxV,capV,binBV,nilCheckV,bytesV,V.cells,V.stays,Orc.nothing,hr2])
    refine effR_new fun id3 σ3 s3 r3 f3 => ?_
    simp -implicitDefEqProofs only [BB,seval,← decide_not,okind,vpre,vpure,intBin,intPre,strBin,strPre,popTo,argSlots,fldV,fldAV,subCells,idxVV,idxAAV,idxSV,sliceV,sliceSV,boundV,szIs,storeOp,storeS,setRowV,eff,extV,buildV,splice,eqSV,fitsL,eqCells,eqCell,minmaxV,capV,binBV,nilCheckV,bytesV,V.cells,V.stays,r3,hr2]
    refine Runs.call rfl rfl rfl (numbers_c [x.w, x.h] (by simp [hw, hh]) (hB2.grow s3 f3 r3) rfl (by rw [upd_same]; rfl) (by simp only [List.length_append,List.length_cons,List.length_nil]; omega)) ?_
    rintro r σ4 ⟨rfl, hB4⟩
    have hB5 := hB4.less ((SubStore.refl K).upd_new (hB2.sub.none f3))
    (refine Runs.of_step Orc.nothing 300 ?_; simp -implicitDefEqProofs only [BB,seval,← decide_not,okind,vpre,vpure,intBin,intPre,strBin,strPre,popTo,argSlots,fldV,fldAV,subCells,idxVV,idxAAV,idxSV,sliceV,sliceSV,boundV,szIs,storeOp,storeS,setRowV,eff,extV,buildV,splice,eqSV,fitsL,eqCells,eqCell,minmaxV,capV,binBV,nilCheckV,bytesV,V.cells,V.stays,Orc.nothing])
    refine Runs.call rfl rfl rfl (wbyte_c btW 62 62 rfl hB5 (by simp only [List.length_append,List.length_cons,List.length_nil] at hJ ⊢; omega)) ?_
    rintro r σ6 ⟨rfl, hB6⟩
    (refine Runs.of_step Orc.nothing 300 ?_; simp -implicitDefEqProofs only [BB,seval,← decide_not,okind,vpre,vpure,intBin,intPre,strBin,strPre,popTo,argSlots,fldV,fldAV,subCells,idxVV,idxAAV,idxSV,sliceV,sliceSV,boundV,szIs,storeOp,storeS,setRowV,eff,extV,buildV,splice,eqSV,fitsL,eqCells,eqCell,minmaxV,capV,binBV,nilCheckV,bytesV,V.cells,V.stays,Orc.nothing])
    refine ⟨_, _, SubStore.refl _, Wk.refl (SubStore.refl _) _, rfl, ?_⟩
    simpa [hs] using hB6
theorem nodeT_c {K σ : Store} {id : Nat} {l : List UInt8} (x : Nd) (hk : x.kind = 2) (hn : ∀ n ∈ x.line :: x.space :: x.words, inN n) (hm : x.words.length ≤ 100000000) (h : IsB 87 5 K σ id l) (hl : l.length + 14 * x.words.length ≤ 900000000) :
    Contract Tryd.prog 54 [.ptr id 0 0, encN x] σ fun r σ' => r = .tup [] ∧ IsB 87 5 K σ' id (l ++ (40 :: (joinX (x.line :: x.space :: x.words) ++ [41]))) := by
  have hJ := joinX_len hn
  refine Contract.of_runs Tryd.func54 e54 k54 (by simp [c54]) ?_
  refine Runs.mix 9 ?_
  (refine Runs.of_step Orc.nothing 300 ?_; simp -implicitDefEqProofs only [BB,seval,← decide_not,okind,vpre,vpure,intBin,intPre,strBin,strPre,popTo,argSlots,fldV,fldAV,subCells,idxVV,idxAAV,idxSV,sliceV,sliceSV,boundV,szIs,storeOp,storeS,setRowV,eff,extV,buildV,splice,eqSV,fitsL,eqCells,eqCell,minmaxV,capV,binBV,nilCheckV,bytesV,V.cells,V.stays,Orc.nothing,c54,encN,Nd.cells,encI])
  refine effR_new fun id1 σ1 s1 r1 f1 => ?_
  simp -implicitDefEqProofs only [BB,seval,← decide_not,okind,vpre,vpure,intBin,intPre,strBin,strPre,popTo,argSlots,fldV,fldAV,subCells,idxVV,idxAAV,idxSV,sliceV,sliceSV,boundV,szIs,storeOp,storeS,setRowV,eff,extV,buildV,splice,eqSV,fitsL,eqCells,eqCell,minmaxV,capV,binBV,nilCheckV,bytesV,V.cells,V.stays,r1,hk]
  refine Runs.call rfl rfl rfl (wbyte_c btW 40 40 rfl (h.grow s1 f1 r1) (by omega)) ?_
  rintro r σ2 ⟨rfl, hB1⟩
  have hr2 := hB1.sub _ _ upd_same
  have hB2 := hB1.less ((SubStore.refl K).upd_new (h.sub.none f1))
  (refine Runs.of_step Orc.nothing 300 ?_; simp -implicitDefEqProofs only [BB,seval,← decide_not,okind,vpre,vpure,intBin,intPre,strBin,strPre,popTo,argSlots,fldV,fldAV,subCells,idxVV,idxAAV,idxSV,sliceV,sliceSV,boundV,szIs,storeOp,storeS,setRowV,eff,extV,buildV,splice,eqSV,fitsL,eqCells,eqCell,minmaxV,capV,binBV,nilCheckV,bytesV,V.cells,V.stays,Orc.nothing,hr2])
  refine effR_new fun id3 σ3 s3 r3 f3 => ?_
  have hr3 := s3 _ _ hr2
  have hO : OutV σ2 σ3 3 1 (.own id3 0 2) [vI x.line, vI x.space] := .inr ⟨id3, rfl, r3, f3⟩
  obtain ⟨idA, hda, hdel⟩ := hO.dst (SubStore.refl σ3)
  have hsr : srcRows σ3 1 (.sl 1 (x.words.map vI)) = some (x.words.map vI) := rfl
  have hb2 : (2 + x.words.length) * 9 ≤ 140737488355328 := by omega
  simp -implicitDefEqProofs only [BB,seval,← decide_not,okind,vpre,vpure,intBin,intPre,strBin,strPre,popTo,argSlots,fldV,fldAV,subCells,idxVV,idxAAV,idxSV,sliceV,sliceSV,boundV,szIs,storeOp,storeS,setRowV,eff,extV,buildV,splice,eqSV,fitsL,eqCells,eqCell,minmaxV,capV,binBV,nilCheckV,bytesV,V.cells,V.stays,r3,hr3,hda,hsr,List.length_map,hb2]
  refine effR_put fun id4 σ4 s4 r4 f4 => ?_
  have k4 := (hdel _ (SubStore.refl _) σ3 s3).trans s4
  have f4' := s3.none f4
  simp -implicitDefEqProofs only [BB,seval,← decide_not,okind,vpre,vpure,intBin,intPre,strBin,strPre,popTo,argSlots,fldV,fldAV,subCells,idxVV,idxAAV,idxSV,sliceV,sliceSV,boundV,szIs,storeOp,storeS,setRowV,eff,extV,buildV,splice,eqSV,fitsL,eqCells,eqCell,minmaxV,capV,binBV,nilCheckV,bytesV,V.cells,V.stays]
  refine Runs.call rfl rfl rfl (numbers_c (x.line :: x.space :: x.words) hn (hB2.grow k4 f4' r4) (by simp only [List.length_cons]; omega) (by rw [upd_same]; simp) (by simp only [List.length_append,List.length_cons,List.length_nil]; omega)) ?_
  rintro r σ5 ⟨rfl, hB5⟩
  have hB6 := hB5.less ((SubStore.refl K).upd_new (hB2.sub.none f4'))
  (refine Runs.of_step Orc.nothing 300 ?_; simp -implicitDefEqProofs only [BB,seval,← decide_not,okind,vpre,vpure,intBin,intPre,strBin,strPre,popTo,argSlots,fldV,fldAV,subCells,idxVV,idxAAV,idxSV,sliceV,sliceSV,boundV,szIs,storeOp,storeS,setRowV,eff,extV,buildV,splice,eqSV,fitsL,eqCells,eqCell,minmaxV,capV,binBV,nilCheckV,bytesV,V.cells,V.stays,Orc.nothing])
  refine Runs.call rfl rfl rfl (wbyte_c btW 41 41 rfl hB6 (by simp only [List.length_append,List.length_cons,List.length_nil] at hJ ⊢; omega)) ?_
  rintro r σ7 ⟨rfl, hB7⟩
  (refine Runs.of_step Orc.nothing 300 ?_; simp -implicitDefEqProofs only [BB,seval,← decide_not,okind,vpre,vpure,intBin,intPre,strBin,strPre,popTo,argSlots,fldV,fldAV,subCells,idxVV,idxAAV,idxSV,sliceV,sliceSV,boundV,szIs,storeOp,storeS,setRowV,eff,extV,buildV,splice,eqSV,fitsL,eqCells,eqCell,minmaxV,capV,binBV,nilCheckV,bytesV,V.cells,V.stays,Orc.nothing])
  refine ⟨_, _, SubStore.refl _, Wk.refl (SubStore.refl _) _, rfl, ?_⟩
  simpa using hB7
end Go.Vc
namespace Go.Vc
open Go.Proofs
theorem wnode_c {K σ : Store} {id : Nat} {l : List UInt8} (y : Shp) (hy : ∀ s i, y ≠ .block s i) (hok : okS y) (h : IsB 87 5 K σ id l) (hl : l.length + costs (toldS y) ≤ 900000000) :
    Contract Tryd.prog 54 [.ptr id 0 0, encN (ndS y)] σ fun r σ' => r = .tup [] ∧ IsB 87 5 K σ' id (l ++ txtS y) := by
  cases y
  · rename_i w h'
    exact nodeB_c (ndS (.box w h')) rfl (inN_of hok.1) (inN_of hok.2) h (by omega)
  · exact absurd rfl (hy _ _)
  · rename_i ns
    obtain ⟨a, b, c, r, rfl, ha, hb, hc, hr⟩ := hok
    have hin := (okT_in (ns := a :: b :: c :: r) ⟨a, b, c, r, rfl, ha, hb, hc, hr⟩).1
    simp only [toldS,costs,costN,ndS,List.drop_succ_cons,List.drop_zero] at hl
    exact nodeT_c (ndS (.text (a :: b :: c :: r))) rfl hin (by simp only [ndS,List.drop_succ_cons,List.drop_zero]; omega) h (by simp only [ndS,List.drop_succ_cons,List.drop_zero]; omega)
  · rename_i w h' d
    have := nodeF_c (ndS (.float w h' d)) rfl hok.2.2 (inN_of hok.1) (inN_of hok.2.1) h (by omega)
    exact this
theorem toldS_one {y : Shp} (h : ∀ s i, y ≠ .block s i) : toldS y = [ndS y] ∧ ((ndS y).kind = 1) = False ∧ (ndS y).size = 1 := by
  cases y
  · simp [toldS, ndS]
  · exact absurd rfl (h _ _)
  · simp [toldS, ndS]
  · simp [toldS, ndS]
theorem sliceV_fromA {σ : Store} {l : List Nd} {s : Int} (h1 : 0 ≤ s) (h2 : s ≤ l.length) :
    sliceV σ 20 (encNs l) (some (.int .i64 s)) none none = some (encNs (l.drop s.toNat)) := by
  simp only [encNs,sliceV,boundV,List.length_map]
  rw [if_pos ⟨h1, h2, Int.le_refl _, Int.le_refl _, trivial⟩]
  simp only [V.sl.injEq,Option.some.injEq,true_and]
  rw [List.map_drop, List.take_of_length_le]
  simp
theorem sliceV_encA {σ : Store} {l : List Nd} {s e : Int} (h1 : 0 ≤ s) (h2 : s ≤ e) (h3 : e ≤ l.length) :
    sliceV σ 20 (encNs l) (some (.int .i64 s)) (some (.int .i64 e)) none = some (encNs ((l.drop s.toNat).take (e.toNat - s.toNat))) := by
  simp only [encNs,sliceV,boundV,List.length_map]
  rw [if_pos ⟨h1, h2, h3, Int.le_refl _, trivial⟩]
  simp [List.map_take, List.map_drop]
theorem txtL_append (e : List UInt8) (a b : List Shp) : txtL e (a ++ b) = txtL e a ++ txtL e b := by
  induction a with
  | nil => simp [txtL]
  | cons x a ih => simp [txtL, ih]
theorem okSs_left {a b : List Shp} (h : okSs (a ++ b)) : okSs a := by
  induction a with
  | nil => trivial
  | cons x a ih => exact ⟨h.1, ih h.2⟩
theorem okSs_right {a b : List Shp} (h : okSs (a ++ b)) : okSs b := by
  induction a with
  | nil => exact h
  | cons x a ih => exact ih h.2
set_option maxRecDepth 100000 in
theorem wall_c {id idf : Nat} {ef : TypeId} : ∀ (m : Nat) (K : Store), K idf = some ⟨ef, 1, [.fn 51 [.ptr id 0 0, .ptr idf 0 0]]⟩ → ∀ (xs : List Shp), (toldL xs).length < m → okSs xs → ∀ (e b : List UInt8) (σ : Store), e.length ≤ 1 → b.length + costs (toldL xs) ≤ 800000000 →
    (toldL xs).length ≤ 100000000 → IsB 87 5 K σ id b →
    Contract Tryd.prog 51 [encNs (toldL xs), .str e, .ptr id 0 0, .ptr idf 0 0] σ fun r σ' => r = .tup [] ∧ IsB 87 5 K σ' id (b ++ txtL e xs) ∧ (xs = [] → σ' = σ) := by
  intro m
  induction m with
  | zero => intro K hf xs hm; omega
  | succ m ih => ?_
  intro K hf xs hm hok e b σ he hb hbig h
  refine Contract.of_runs Tryd.func51 e51 k51 (by simp [c51]) ?_
  refine Runs.mix 6 ?_
  (refine Runs.of_step Orc.nothing 300 ?_; simp -implicitDefEqProofs only [BB,seval,← decide_not,okind,vpre,vpure,intBin,intPre,strBin,strPre,popTo,argSlots,fldV,fldAV,subCells,idxVV,idxAAV,idxSV,sliceV,sliceSV,boundV,szIs,storeOp,storeS,setRowV,eff,extV,buildV,splice,eqSV,fitsL,eqCells,eqCell,minmaxV,capV,binBV,nilCheckV,bytesV,V.cells,V.stays,Orc.nothing,c51])
  refine Runs.loop (fun q st => ∃ dn rs : List Shp, xs = dn ++ rs ∧ q = rs.length ∧ IsB 87 5 K st.σ id (b ++ txtL e dn) ∧ (dn = [] → st.σ = σ) ∧ st.s 0 = encNs (toldL rs) ∧ st.s 1 = .str e ∧ st.s 2 = .ptr id 0 0 ∧ st.s 3 = .ptr idf 0 0) xs.length ?_ ?_
  · exact ⟨[], xs, rfl, rfl, by simpa [txtL] using h, fun _ => rfl, rfl, rfl, rfl, rfl⟩
  rintro q ⟨S, σ1⟩ ⟨dn, rs, rfl, rfl, hB, hsame, h0, h1, h2, h3⟩
  simp only at h0 h1 h2 h3 hB hsame
  refine Runs.mix 6 ?_
  cases rs with
  | nil =>
    (refine Runs.of_step Orc.nothing 300 ?_; simp -implicitDefEqProofs only [BB,seval,← decide_not,okind,vpre,vpure,intBin,intPre,strBin,strPre,popTo,argSlots,fldV,fldAV,subCells,idxVV,idxAAV,idxSV,sliceV,sliceSV,boundV,szIs,storeOp,storeS,setRowV,eff,extV,buildV,splice,eqSV,fitsL,eqCells,eqCell,minmaxV,capV,binBV,nilCheckV,bytesV,V.cells,V.stays,Orc.nothing,h0,h1,h2,h3,toldL,encNs,lenV_sl])
    refine ⟨_, _, SubStore.refl _, Wk.refl (SubStore.refl _) _, rfl, by simpa using hB, fun e => hsame (by simpa using e)⟩
  | cons y rs =>
    obtain ⟨hoky, hokr⟩ := okSs_right hok
    have hcst := hb
    rw [toldL_append, toldL, costs_app, costs_app] at hcst
    have hdl := txtL_len dn (okSs_left hok) e he
    have hbig' := hbig
    rw [toldL_append, toldL, List.length_append, List.length_append] at hbig'
    have hidf := hB.sub _ _ hf
    have hnext : dn ++ y :: rs = (dn ++ [y]) ++ rs := by simp
    have htxt : txtL e (dn ++ [y]) = txtL e dn ++ (txtS y ++ e) := by rw [txtL_append]; simp [txtL]
    by_cases hy : ∃ s i, y = .block s i
    · obtain ⟨s, inner, rfl⟩ := hy
      have hL : toldL (.block s inner :: rs) = { ndS (.block s inner) with size := 1 + ((toldL inner).length : Int) } :: (toldL inner ++ toldL rs) := by rw [toldL, toldS]; rfl
      have htl := attX_len (okL_in hoky.1.2) 12 0
      have hcin : 400 + costs (toldL inner) ≤ costs (toldS (.block s inner)) := by simp [toldS, costs, costN]
      have hli : (toldL inner).length + 1 ≤ (toldS (.block s inner)).length := by simp [toldS]
      have htin := txtL_len inner hoky.2 [] (by simp)
      have hmi : (toldL inner).length < m := by rw [toldL_append, toldL, List.length_append, List.length_append] at hm; omega
      rw [hL] at h0
      have hbegin : ∀ (v : V), v = .ptr id 0 0 → ∀ (K σ : Store) (l : List UInt8), IsB 87 5 K σ id l → l.length ≤ 900000000 - 1000 → Contract Tryd.prog 52 [v, .agg (styL s).cells] σ fun r σ' => r = .tup [] ∧ IsB 87 5 K σ' id (l ++ (91 :: attX s 12 0)) := fun v hv K σ l h hl => by
        rw [hv, ← styL_cells hoky.1.1]; exact begin_c s hoky.1.1 (okL_in hoky.1.2) h hl
      have t4 : styL s = ({ ndS (.block s inner) with size := 1 + ((toldL inner).length : Int) } : Nd).st := rfl
      have t3 : ({ ndS (.block s inner) with size := 1 + ((toldL inner).length : Int) } : Nd).size = 1 + ((toldL inner).length : Int) := rfl
      have t2 : (({ ndS (.block s inner) with size := 1 + ((toldL inner).length : Int) } : Nd).kind = 1) = True := eq_true rfl
      rw [t4] at hbegin
      clear t4
      generalize ({ ndS (.block s inner) with size := 1 + ((toldL inner).length : Int) } : Nd) = x at *
      have hidx : ∀ σ, idxAV σ 20 (encNs (x :: (toldL inner ++ toldL rs))) (.int .i64 0) = some (.rp (.agg x.cells)) := fun σ => idxAV_encNs (i := 0) (by simp)
      have hlen : ((((toldL inner ++ toldL rs).length + 1 : Nat) : Int) > 0) = True := eq_true (by omega)
      have hsl : ∀ σ, sliceV σ 20 (encNs (x :: (toldL inner ++ toldL rs))) (some (.int .i64 1)) (some (.int .i64 x.size)) none = some (encNs (toldL inner)) := fun σ => by
        rw [sliceV_encA (by omega) (by omega) (by rw [t3]; simp; omega), t3]
        rw [show (1 + ((toldL inner).length : Int)).toNat - (1 : Int).toNat = (toldL inner).length by omega]
        simp
      have hsf : ∀ σ, sliceV σ 20 (encNs (x :: (toldL inner ++ toldL rs))) (some (.int .i64 x.size)) none none = some (encNs (toldL rs)) := fun σ => by
        rw [sliceV_fromA (by omega) (by rw [t3]; simp; omega), t3]
        rw [show (1 + ((toldL inner).length : Int)).toNat = (toldL inner).length + 1 by omega]
        simp
      generalize toldL inner ++ toldL rs = tl at *
      (refine Runs.of_step Orc.nothing 300 ?_; simp -implicitDefEqProofs only [BB,seval,← decide_not,okind,vpre,vpure,intBin,intPre,strBin,strPre,popTo,argSlots,fldV,fldAV,subCells,idxVV,idxAAV,idxSV,sliceSV,boundV,szIs,storeOp,storeS,setRowV,eff,extV,buildV,splice,eqSV,fitsL,eqCells,eqCell,minmaxV,capV,binBV,nilCheckV,bytesV,V.cells,V.stays,Orc.nothing,h0,h1,h2,h3,lenV_encNs,hlen,hidx,loadV_rp_node,encN,Nd.cells,encI])
      refine effR_new fun id6 σ6 s6 r6 f6 => ?_
      have hne : idf ≠ id6 := ne_new hidf f6
      simp -implicitDefEqProofs only [BB,seval,← decide_not,okind,vpre,vpure,intBin,intPre,strBin,strPre,popTo,argSlots,fldV,fldAV,subCells,idxVV,idxAAV,idxSV,sliceSV,boundV,szIs,storeOp,storeS,setRowV,eff,extV,buildV,splice,eqSV,fitsL,eqCells,eqCell,minmaxV,capV,binBV,nilCheckV,bytesV,V.cells,V.stays,r6,h0,h1,h2,h3,t2]
      refine Runs.call rfl rfl rfl (hbegin _ h2 _ _ _ (hB.grow (s6.updK f6) f6 upd_same) (by simp only [List.length_append]; omega)) ?_
      rintro r σ7 ⟨rfl, hB7⟩
      have hr7 := hB7.sub _ _ upd_same
      have hf7 := hB7.sub idf _ (by rw [upd_ne hne]; exact hf)
      (refine Runs.of_step Orc.nothing 300 ?_; simp -implicitDefEqProofs only [BB,seval,← decide_not,okind,vpre,vpure,intBin,intPre,strBin,strPre,popTo,argSlots,fldV,fldAV,subCells,idxVV,idxAAV,idxSV,sliceSV,boundV,szIs,storeOp,storeS,setRowV,eff,extV,buildV,splice,eqSV,fitsL,eqCells,eqCell,minmaxV,capV,binBV,nilCheckV,bytesV,V.cells,V.stays,Orc.nothing,hr7,hf7,h0,h1,h2,h3,hsl])
      refine Runs.call rfl rfl rfl (ih _ (by rw [upd_ne hne]; exact hf) inner hmi hoky.2 [] _ _ (by simp) (by simp only [List.length_append,List.length_cons]; omega) (by omega) hB7) ?_
      rintro r σ8 ⟨rfl, hB8, -⟩
      (refine Runs.of_step Orc.nothing 300 ?_; simp -implicitDefEqProofs only [BB,seval,← decide_not,okind,vpre,vpure,intBin,intPre,strBin,strPre,popTo,argSlots,fldV,fldAV,subCells,idxVV,idxAAV,idxSV,sliceSV,boundV,szIs,storeOp,storeS,setRowV,eff,extV,buildV,splice,eqSV,fitsL,eqCells,eqCell,minmaxV,capV,binBV,nilCheckV,bytesV,V.cells,V.stays,Orc.nothing,h0,h1,h2,h3])
      refine Runs.call rfl rfl rfl (wbyte_c btW 93 93 rfl hB8 (by simp only [List.length_append,List.length_cons]; omega)) ?_
      rintro r σ9 ⟨rfl, hB9⟩
      (refine Runs.of_step Orc.nothing 300 ?_; simp -implicitDefEqProofs only [BB,seval,← decide_not,okind,vpre,vpure,intBin,intPre,strBin,strPre,popTo,argSlots,fldV,fldAV,subCells,idxVV,idxAAV,idxSV,sliceSV,boundV,szIs,storeOp,storeS,setRowV,eff,extV,buildV,splice,eqSV,fitsL,eqCells,eqCell,minmaxV,capV,binBV,nilCheckV,bytesV,V.cells,V.stays,Orc.nothing,h0,h1,h2,h3])
      refine Runs.call rfl rfl rfl (wstr_c btW e hB9 (by simp only [List.length_append,List.length_cons,List.length_nil]; omega)) ?_
      rintro r σ10 ⟨rfl, hB10⟩
      have hr10 := hB10.sub _ _ upd_same
      have hB11 := hB10.less ((SubStore.refl K).upd_new (hB.sub.none f6))
      (refine Runs.of_step Orc.nothing 300 ?_; simp -implicitDefEqProofs only [BB,seval,← decide_not,okind,vpre,vpure,intBin,intPre,strBin,strPre,popTo,argSlots,fldV,fldAV,subCells,idxVV,idxAAV,idxSV,sliceSV,boundV,szIs,storeOp,storeS,setRowV,eff,extV,buildV,splice,eqSV,fitsL,eqCells,eqCell,minmaxV,capV,binBV,nilCheckV,bytesV,V.cells,V.stays,Orc.nothing,hr10,h0,h1,h2,h3,hsf])
      refine ⟨_, Nat.lt_succ_self _, dn ++ [.block s inner], rs, hnext, rfl, ?_, by simp, by simp⟩
      rw [htxt]; simpa [txtS] using hB11
    · have hy' : ∀ s i, y ≠ .block s i := fun s i e => hy ⟨s, i, e⟩
      obtain ⟨t1, t2, t3⟩ := toldS_one hy'
      have hL : toldL (y :: rs) = ndS y :: toldL rs := by rw [toldL, t1]; rfl
      have hnode : ∀ (v : V), v = .ptr id 0 0 → ∀ (K σ : Store) (l : List UInt8), IsB 87 5 K σ id l → l.length + costs (toldS y) ≤ 900000000 → Contract Tryd.prog 54 [v, encN (ndS y)] σ fun r σ' => r = .tup [] ∧ IsB 87 5 K σ' id (l ++ txtS y) := fun v hv K σ l h hl => by rw [hv]; exact wnode_c y hy' hoky h hl
      have htl := txtS_len y hoky
      rw [hL] at h0
      have hidx : ∀ σ, idxAV σ 20 (encNs (ndS y :: toldL rs)) (.int .i64 0) = some (.rp (.agg (ndS y).cells)) := fun σ => idxAV_encNs (i := 0) (by simp)
      have hlen : ((((toldL rs).length + 1 : Nat) : Int) > 0) = True := eq_true (by omega)
      have hsf : ∀ σ, sliceV σ 20 (encNs (ndS y :: toldL rs)) (some (.int .i64 1)) none none = some (encNs (toldL rs)) := fun σ => by rw [sliceV_fromA (by omega) (by simp; omega)]; rfl
      generalize ndS y = x at *
      (refine Runs.of_step Orc.nothing 300 ?_; simp -implicitDefEqProofs only [BB,seval,← decide_not,okind,vpre,vpure,intBin,intPre,strBin,strPre,popTo,argSlots,fldV,fldAV,subCells,idxVV,idxAAV,idxSV,sliceSV,boundV,szIs,storeOp,storeS,setRowV,eff,extV,buildV,splice,eqSV,fitsL,eqCells,eqCell,minmaxV,capV,binBV,nilCheckV,bytesV,V.cells,V.stays,Orc.nothing,h0,h1,h2,h3,lenV_encNs,hlen,hidx,loadV_rp_node,encN,Nd.cells,encI])
      refine effR_new fun id6 σ6 s6 r6 f6 => ?_
      simp -implicitDefEqProofs only [BB,seval,← decide_not,okind,vpre,vpure,intBin,intPre,strBin,strPre,popTo,argSlots,fldV,fldAV,subCells,idxVV,idxAAV,idxSV,sliceSV,boundV,szIs,storeOp,storeS,setRowV,eff,extV,buildV,splice,eqSV,fitsL,eqCells,eqCell,minmaxV,capV,binBV,nilCheckV,bytesV,V.cells,V.stays,r6,h0,h1,h2,h3,t2]
      refine Runs.call rfl rfl rfl (hnode _ h2 _ _ _ (hB.grow (s6.updK f6) f6 upd_same) (by simp only [List.length_append]; omega)) ?_
      rintro r σ7 ⟨rfl, hB7⟩
      (refine Runs.of_step Orc.nothing 300 ?_; simp -implicitDefEqProofs only [BB,seval,← decide_not,okind,vpre,vpure,intBin,intPre,strBin,strPre,popTo,argSlots,fldV,fldAV,subCells,idxVV,idxAAV,idxSV,sliceSV,boundV,szIs,storeOp,storeS,setRowV,eff,extV,buildV,splice,eqSV,fitsL,eqCells,eqCell,minmaxV,capV,binBV,nilCheckV,bytesV,V.cells,V.stays,Orc.nothing,h0,h1,h2,h3])
      refine Runs.call rfl rfl rfl (wstr_c btW e hB7 (by simp only [List.length_append]; omega)) ?_
      rintro r σ8 ⟨rfl, hB8⟩
      have hr8 := hB8.sub _ _ upd_same
      have hB9 := hB8.less ((SubStore.refl K).upd_new (hB.sub.none f6))
      (refine Runs.of_step Orc.nothing 300 ?_; simp -implicitDefEqProofs only [BB,seval,← decide_not,okind,vpre,vpure,intBin,intPre,strBin,strPre,popTo,argSlots,fldV,fldAV,subCells,idxVV,idxAAV,idxSV,sliceSV,boundV,szIs,storeOp,storeS,setRowV,eff,extV,buildV,splice,eqSV,fitsL,eqCells,eqCell,minmaxV,capV,binBV,nilCheckV,bytesV,V.cells,V.stays,Orc.nothing,hr8,h0,h1,h2,h3,t3,hsf])
      refine ⟨_, Nat.lt_succ_self _, dn ++ [y], rs, hnext, rfl, ?_, by simp, by simp⟩
      rw [htxt]; simpa using hB9
end Go.Vc
namespace Go.Vc
def shpN (x : Nd) : Shp := if x.kind = 2 then .text (x.line :: x.space :: x.words) else if x.kind = 3 then .box x.w x.h else .float x.w x.h x.side
def styI (s : Sty) : List Int := [s.top, s.bottom, s.padTop, s.padBottom, s.inset, s.orphans, s.widows, s.head, s.before, s.after, s.inside, s.clear]
theorem styI_ok {s : Sty} (h : s.ok = true) : okL (styI s) := by
  have hMX : MX = 1099511627776 := rfl
  simp [Sty.ok, isFrom, mx] at h
  intro k v hk
  have hk12 : k < 12 := (List.getElem?_eq_some_iff.1 hk).1
  match k, hk12 with
  | 0, _ | 1, _ | 2, _ | 3, _ | 4, _ | 5, _ | 6, _ | 7, _ | 8, _ | 9, _ | 10, _ | 11, _ =>
    simp only [styI,List.getElem?_cons_zero,List.getElem?_cons_succ,Option.some.injEq] at hk
    subst hk
    simp [loK, hiK]
    omega
theorem isFrom_iff {n a b : Int} : isFrom n a b = true ↔ a ≤ n ∧ n ≤ b := by unfold isFrom; simp
theorem mxMX : mx = MX := rfl
theorem shpN_ok {x : Nd} (h : x.ok = true) (h1 : x.kind ≠ 1) (hs : x.size = 1) : toldS (shpN x) = [x] ∧ okS (shpN x) := by
  have hMX : MX = 1099511627776 := rfl
  unfold Nd.ok at h
  rw [if_neg h1] at h
  split at h
  · cases h
  · rename_i hst
    have hst : x.st = Sty.zero := Classical.byContradiction hst
    obtain ⟨kind, size, st, line, space, words, side, w, hh⟩ := x
    simp only at h h1 hs hst
    subst hst hs
    split at h
    · rename_i h2
      simp only [Bool.and_eq_true,decide_eq_true_eq,isFrom_iff,mxMX] at h
      obtain ⟨⟨⟨⟨⟨⟨a1, a2⟩, a3⟩, a4⟩, a5⟩, a6⟩, a7⟩ := h
      subst h2 a5 a6 a7
      refine ⟨rfl, ?_⟩
      show okS (.text (line :: space :: words))
      rw [okS]
      cases words with
      | nil => simp at a2
      | cons c r =>
        have hall := List.all_eq_true.1 a1
        have hc := isFrom_iff.1 (hall c (by simp))
        exact ⟨line, space, c, r, rfl, a3, a4, hc, fun n hn => isFrom_iff.1 (hall n (by simp [hn]))⟩
    · rename_i h2
      simp only [Bool.and_eq_true,Bool.or_eq_true,decide_eq_true_eq,isFrom_iff,mxMX] at h
      obtain ⟨⟨⟨⟨⟨a1, a2⟩, a3⟩, a4⟩, a5⟩, a6⟩ := h
      have hw : words = [] := List.length_eq_zero_iff.1 a3
      subst a1 a2 hw
      rcases a6 with ⟨k3, rfl⟩ | ⟨k4, hsd⟩
      · subst k3
        refine ⟨rfl, ?_⟩
        show okS (.box w hh)
        rw [okS]; exact ⟨a4, a5⟩
      · subst k4
        refine ⟨rfl, ?_⟩
        show okS (.float w hh side)
        rw [okS]; exact ⟨a4, a5, by omega⟩
theorem blk_ok {x : Nd} (h : x.ok = true) (h1 : x.kind = 1) (inner : List Shp) (hs : x.size = 1 + ((toldL inner).length : Int)) (hi : okSs inner) : toldS (.block (styI x.st) inner) = x :: toldL inner ∧ okS (.block (styI x.st) inner) := by
  unfold Nd.ok at h
  rw [if_pos h1] at h
  simp only [Bool.and_eq_true,decide_eq_true_eq] at h
  obtain ⟨⟨⟨⟨⟨⟨a1, a2⟩, a3⟩, a4⟩, a5⟩, a6⟩, a7⟩ := h
  obtain ⟨kind, size, st, line, space, words, side, w, hh⟩ := x
  simp only at a1 a2 a3 a4 a5 a6 a7 h1 hs
  have hw : words = [] := List.length_eq_zero_iff.1 a4
  subst a2 a3 hw a5 a6 a7 h1 hs
  refine ⟨by rw [toldS]; rfl, ?_⟩
  rw [okS]
  exact ⟨⟨rfl, styI_ok a1⟩, hi⟩
theorem shapes_of' : ∀ (m : Nat) (l : List Nd), l.length ≤ m → l.all Nd.ok = true → rowsB l 0 l.length = true → ∃ xs, toldL xs = l ∧ okSs xs := by
  intro m
  induction m with
  | zero =>
    intro l hm _ _
    have : l = [] := List.length_eq_zero_iff.1 (by omega)
    subst this
    exact ⟨[], rfl, trivial⟩
  | succ m ih =>
    intro l hm hok hr
    cases l with
    | nil => exact ⟨[], rfl, trivial⟩
    | cons x l =>
      simp only [List.length_cons] at hm hr
      rw [rowsB, dif_pos (by omega)] at hr
      simp only [List.getElem?_cons_zero] at hr
      split at hr
      · rename_i hx
        simp only [Bool.and_eq_true,Bool.or_eq_true,decide_eq_true_eq] at hr
        obtain ⟨⟨hk, h1⟩, h2⟩ := hr
        simp only [Nat.zero_add] at h1 h2
        rw [List.all_cons, Bool.and_eq_true] at hok
        obtain ⟨k, hk1⟩ : ∃ k : Nat, x.size = 1 + (k : Int) := ⟨(x.size - 1).toNat, by omega⟩
        have hkl : k ≤ l.length := by omega
        have e1 : x.size.toNat = 1 + k := by omega
        rw [e1] at h1 h2
        have w1 := rowsB_window (x :: l) 1 k (k + 1) 0 k (by omega) (Nat.le_refl _) (by simp; omega)
        have w2 := rowsB_window (x :: l) (1 + k) (l.length - k) (l.length - k + 1) 0 (l.length - k) (by omega) (Nat.le_refl _) (by simp; omega)
        rw [Nat.add_zero, h1] at w1
        rw [Nat.add_zero, show 1 + k + (l.length - k) = l.length + 1 by omega, h2] at w2
        have d1 : ((x :: l).drop 1).take k = l.take k := rfl
        have d2 : ((x :: l).drop (1 + k)).take (l.length - k) = l.drop k := by
          rw [show 1 + k = k + 1 by omega, List.drop_succ_cons]
          exact List.take_of_length_le (by simp)
        rw [d1] at w1
        rw [d2] at w2
        have hall := List.all_eq_true.1 hok.2
        obtain ⟨ys, y1, y2⟩ := ih (l.drop k) (by simp; omega) (List.all_eq_true.2 fun z hz => hall z (List.mem_of_mem_drop hz)) (by simpa using w2)
        obtain ⟨zs, z1, z2⟩ := ih (l.take k) (by simp; omega) (List.all_eq_true.2 fun z hz => hall z (List.mem_of_mem_take hz)) (by rw [List.length_take, Nat.min_eq_left hkl]; exact w1)
        by_cases hkind : x.kind = 1
        · obtain ⟨b1, b2⟩ := blk_ok hok.1 hkind zs (by rw [z1, List.length_take, Nat.min_eq_left hkl]; exact hk1) z2
          refine ⟨.block (styI x.st) zs :: ys, ?_, by rw [okSs]; exact ⟨b2, y2⟩⟩
          rw [toldL, b1, z1, y1, List.cons_append, List.take_append_drop]
        · have hs1 : x.size = 1 := by
            rcases hk with h | h
            · exact absurd h hkind
            · omega
          have hk0 : k = 0 := by omega
          subst hk0
          obtain ⟨b1, b2⟩ := shpN_ok hok.1 hkind hs1
          refine ⟨shpN x :: ys, ?_, by rw [okSs]; exact ⟨b2, y2⟩⟩
          rw [toldL, b1, y1]; rfl
      · cases hr
theorem shapes_of {l : List Nd} (h : isB l = true) : ∃ xs, toldL xs = l ∧ okSs xs := by
  simp only [isB,Bool.and_eq_true] at h
  exact shapes_of' l.length l (Nat.le_refl _) h.1 h.2
mutual
theorem okS_nodes : ∀ (x : Shp), okS x → ∀ y ∈ toldS x, y.ok = true
  | .box w h, ho, y, hy => by
    rw [okS] at ho
    rw [toldS] at hy
    simp only [List.mem_singleton] at hy
    subst hy
    have hMX : MX = 1099511627776 := rfl
    simp [ndS, Nd.ok, isFrom, mx]; omega
  | .float w h d, ho, y, hy => by
    rw [okS] at ho
    rw [toldS] at hy
    simp only [List.mem_singleton] at hy
    subst hy
    have hMX : MX = 1099511627776 := rfl
    exact float_ok2 w h d (by simp [isFrom, mx]; omega) (by simp [isFrom, mx]; omega) ho.2.2
  | .text ns, ho, y, hy => by
    rw [okS] at ho
    obtain ⟨a, b, c, r, rfl, h1, h2, h3, h4⟩ := ho
    rw [toldS] at hy
    simp only [List.mem_singleton] at hy
    subst hy
    have hMX : MX = 1099511627776 := rfl
    simp only [ndS,List.getD_cons_zero,List.getD_cons_succ,List.drop_succ_cons,List.drop_zero,Nd.ok]
    have h5 : r.all (isFrom · 1 mx) = true := List.all_eq_true.2 fun n hn => by have := h4 n hn; simp [isFrom, mx]; omega
    simp only [List.all_cons,h5,List.length_cons]
    simp [isFrom, mx]; omega
  | .block s inner, ho, y, hy => by
    rw [okS] at ho
    rw [toldS] at hy
    simp only [List.mem_cons] at hy
    rcases hy with rfl | hy
    · rw [ok_size rfl]
      simp [ndS, Nd.ok, styL_ok ho.1.1 ho.1.2]
    · exact okSs_nodes inner ho.2 y hy
theorem okSs_nodes : ∀ (xs : List Shp), okSs xs → ∀ y ∈ toldL xs, y.ok = true
  | [], _, y, hy => by cases hy
  | x :: l, ho, y, hy => by
    rw [okSs] at ho
    rw [toldL, List.mem_append] at hy
    rcases hy with hy | hy
    · exact okS_nodes x ho.1 y hy
    · exact okSs_nodes l ho.2 y hy
end
theorem okSs_isB {xs : List Shp} (h : okSs xs) : isB (toldL xs) = true := isB_told (okSs_nodes xs h)
end Go.Vc
namespace Go.Vc
open Go.Proofs
theorem writeBad_c (l : List Nd) (hl : Fine l) (hB : isB l = false) : PFun Tryd.prog 28 [encNs l] (.tup [.str [], vI 4]) := fun σ => by
  refine Contract.of_runs Tryd.func28 e28 k28 (by simp [c28]) ?_
  refine Runs.mix 6 ?_
  (refine Runs.of_step Orc.nothing 300 ?_; simp -implicitDefEqProofs only [BB,seval,← decide_not,okind,vpre,vpure,intBin,intPre,strBin,strPre,popTo,argSlots,fldV,fldAV,subCells,idxVV,idxAAV,idxSV,sliceV,sliceSV,boundV,szIs,storeOp,storeS,setRowV,eff,extV,buildV,splice,eqSV,fitsL,eqCells,eqCell,minmaxV,capV,binBV,nilCheckV,bytesV,V.cells,V.stays,Orc.nothing,c28])
  refine Runs.pcall rfl rfl rfl (isv_c l hl _) ?_
  (refine Runs.of_step Orc.nothing 300 ?_; simp -implicitDefEqProofs only [BB,seval,← decide_not,okind,vpre,vpure,intBin,intPre,strBin,strPre,popTo,argSlots,fldV,fldAV,subCells,idxVV,idxAAV,idxSV,sliceV,sliceSV,boundV,szIs,storeOp,storeS,setRowV,eff,extV,buildV,splice,eqSV,fitsL,eqCells,eqCell,minmaxV,capV,binBV,nilCheckV,bytesV,V.cells,V.stays,Orc.nothing,hB])
  exact RetV.same rfl
theorem txtL_nil {xs : List Shp} (h : txtL [10] xs = []) : xs = [] := by
  cases xs with
  | nil => rfl
  | cons x l => simp [txtL] at h
theorem write_c (xs : List Shp) (hok : okSs xs) (hF : Fine (toldL xs)) (hcs : costs (toldL xs) ≤ 800000000) : PFun Tryd.prog 28 [encNs (toldL xs)] (.tup [.str (txtL [10] xs), vI 0]) := fun σ => by
  have hB : isB (toldL xs) = true := okSs_isB hok
  refine Contract.of_runs Tryd.func28 e28 k28 (by simp [c28]) ?_
  refine Runs.mix 6 ?_
  (refine Runs.of_step Orc.nothing 300 ?_; simp -implicitDefEqProofs only [BB,seval,← decide_not,okind,vpre,vpure,intBin,intPre,strBin,strPre,popTo,argSlots,fldV,fldAV,subCells,idxVV,idxAAV,idxSV,sliceV,sliceSV,boundV,szIs,storeOp,storeS,setRowV,eff,extV,buildV,splice,eqSV,fitsL,eqCells,eqCell,minmaxV,capV,binBV,nilCheckV,bytesV,V.cells,V.stays,Orc.nothing,c28])
  refine Runs.pcall rfl rfl rfl (isv_c _ hF _) ?_
  (refine Runs.of_step Orc.nothing 300 ?_; simp -implicitDefEqProofs only [BB,seval,← decide_not,okind,vpre,vpure,intBin,intPre,strBin,strPre,popTo,argSlots,fldV,fldAV,subCells,idxVV,idxAAV,idxSV,sliceV,sliceSV,boundV,szIs,storeOp,storeS,setRowV,eff,extV,buildV,splice,eqSV,fitsL,eqCells,eqCell,minmaxV,capV,binBV,nilCheckV,bytesV,V.cells,V.stays,Orc.nothing,hB])
  refine effR_new fun id4 σ4 s4 r4 f4 => ?_
  simp -implicitDefEqProofs only [BB,seval,← decide_not,okind,vpre,vpure,intBin,intPre,strBin,strPre,popTo,argSlots,fldV,fldAV,subCells,idxVV,idxAAV,idxSV,sliceV,sliceSV,boundV,szIs,storeOp,storeS,setRowV,eff,extV,buildV,splice,eqSV,fitsL,eqCells,eqCell,minmaxV,capV,binBV,nilCheckV,bytesV,V.cells,V.stays,r4]
  refine effR_new fun id5 σ5 s5 r5 f5 => ?_
  have n45 : id4 ≠ id5 := ne_new r4 f5
  simp -implicitDefEqProofs only [BB,seval,← decide_not,okind,vpre,vpure,intBin,intPre,strBin,strPre,popTo,argSlots,fldV,fldAV,subCells,idxVV,idxAAV,idxSV,sliceV,sliceSV,boundV,szIs,storeOp,storeS,setRowV,eff,extV,buildV,splice,eqSV,fitsL,eqCells,eqCell,minmaxV,capV,binBV,nilCheckV,bytesV,V.cells,V.stays,r5]
  have fs5 : σ id5 = none := s4.none f5
  have hK : (upd σ id5 ⟨88, 1, [.fn 51 [.ptr id4 0 0, .ptr id5 0 0]]⟩) id5 = some ⟨88, 1, [.fn 51 [.ptr id4 0 0, .ptr id5 0 0]]⟩ := upd_same
  have hrow : (upd σ5 id5 ⟨88, 1, [.fn 51 [.ptr id4 0 0, .ptr id5 0 0]]⟩) id4 = some (bRow 87 .nilp .nils) := by rw [upd_ne n45]; exact s5 _ _ r4
  have hB0 : IsB 87 5 (upd σ id5 ⟨88, 1, [.fn 51 [.ptr id4 0 0, .ptr id5 0 0]]⟩) (upd σ5 id5 ⟨88, 1, [.fn 51 [.ptr id4 0 0, .ptr id5 0 0]]⟩) id4 [] := IsB.start ((s4.trans s5).upd2) (by rw [upd_ne n45]; exact f4) hrow
  have hlen := hF.1
  refine Runs.call rfl rfl rfl (wall_c _ _ hK xs (Nat.lt_succ_self _) hok [10] [] _ (by simp) (by simpa using hcs) (by omega) hB0) ?_
  rintro r σ6 ⟨rfl, hB6, hsame⟩
  (refine Runs.of_step Orc.nothing 300 ?_; simp -implicitDefEqProofs only [BB,seval,← decide_not,okind,vpre,vpure,intBin,intPre,strBin,strPre,popTo,argSlots,fldV,fldAV,subCells,idxVV,idxAAV,idxSV,sliceV,sliceSV,boundV,szIs,storeOp,storeS,setRowV,eff,extV,buildV,splice,eqSV,fitsL,eqCells,eqCell,minmaxV,capV,binBV,nilCheckV,bytesV,V.cells,V.stays,Orc.nothing])
  refine Runs.call rfl rfl rfl (bstr_c hB6 (fun e => ?_)) ?_
  · have e1 := hsame (txtL_nil (by simpa using e))
    refine ⟨.nilp, ?_⟩
    show σ6 id4 = _
    rw [e1]; exact hrow
  rintro r σ7 ⟨rfl, rfl⟩
  (refine Runs.of_step Orc.nothing 300 ?_; simp -implicitDefEqProofs only [BB,seval,← decide_not,okind,vpre,vpure,intBin,intPre,strBin,strPre,popTo,argSlots,fldV,fldAV,subCells,idxVV,idxAAV,idxSV,sliceV,sliceSV,boundV,szIs,storeOp,storeS,setRowV,eff,extV,buildV,splice,eqSV,fitsL,eqCells,eqCell,minmaxV,capV,binBV,nilCheckV,bytesV,V.cells,V.stays,Orc.nothing])
  exact .pure ((SubStore.refl σ).updK fs5) (by simp)
end Go.Vc
namespace Go.Vc
def ofF : Nat → List UInt8 → Bool → Nat → Res
  | 0, _, _, _ => .ok []
  | f + 1, s, c, i =>
    if i < s.length then
      if sizeR s i = 0 then .bad i
      else if c then ofF f s (decide (byt s i ≠ 10)) (i + sizeR s i)
      else if byt s i = 35 then ofF f s true (i + 1)
      else if byt s i = 32 ∨ byt s i = 9 ∨ byt s i = 10 then ofF f s false (i + 1)
      else if 48 ≤ byt s i ∧ byt s i ≤ 57 then
        if numBad (digsAt s i) then .bad i
        else (ofF f s false (i + digLen (s.drop i))).cons ⟨2, 0, numR (digsAt s i), i⟩
      else (ofF f s false (i + sizeR s i)).cons ⟨1, runeR s i (sizeR s i), 0, i⟩
    else .ok []
theorem ofF_eq (s : List UInt8) : ∀ (f : Nat) (c : Bool) (i : Nat), s.length - i ≤ f → ofF f s c i = ofI s c i
  | 0, c, i, h => by rw [ofI_end (by omega)]; rfl
  | f + 1, c, i, h => by
    unfold ofF
    by_cases hlt : i < s.length
    · rw [if_pos hlt]
      by_cases hz : sizeR s i = 0
      · rw [if_pos hz, ofI_bad hlt hz]
      · rw [if_neg hz]
        cases c
        · rw [if_neg (by simp)]
          by_cases h35 : byt s i = 35
          · rw [if_pos h35, ofI_hash hlt hz h35, ofF_eq s f true (i + 1) (by omega)]
          · rw [if_neg h35]
            by_cases hw : byt s i = 32 ∨ byt s i = 9 ∨ byt s i = 10
            · rw [if_pos hw, ofI_white hlt hz hw, ofF_eq s f false (i + 1) (by omega)]
            · rw [if_neg hw]
              by_cases hd : 48 ≤ byt s i ∧ byt s i ≤ 57
              · have hdp := digLen_pos hd.1 hd.2
                rw [if_pos hd, ofI_num hlt hz hd, ofF_eq s f false _ (by omega)]
              · rw [if_neg hd, ofI_sign hlt hz (by omega), ofF_eq s f false _ (by omega)]
        · rw [if_pos rfl, ofI_com hlt hz, ofF_eq s f _ _ (by omega)]
    · rw [if_neg hlt, ofI_end hlt]
end Go.Vc
namespace Go.Vc
open Go.Proofs
def readF (s : List UInt8) : List Nd × Int × Int := match ofF s.length s false 0 with
  | .bad p => ([], p, 1)
  | .ok l => match (nodesR l.length l).2.1 with
    | t :: _ => ([], t.at', 1)
    | [] => if (nodesR l.length l).2.2 then ([], s.length, 1) else (toldL (nodesR l.length l).1, 0, 0)
theorem readF_eq (s : List UInt8) : readF s = readR s := by
  unfold readF readR
  rw [ofF_eq s s.length false 0 (by omega)]
  all_goals (cases ofI s false 0 <;> rfl)
end Go.Vc
namespace Go.Vc
open Go.Proofs
def vastB (l : List Nd) : Bool := decide (l.length > 200) || l.any fun x => decide (x.words.length > 100)
theorem vastB_fine {l : List Nd} (h : vastB l = false) : l.length ≤ 200 ∧ ∀ x ∈ l, x.words.length ≤ 100 := by
  simp only [vastB,Bool.or_eq_false_iff,decide_eq_false_iff_not,List.any_eq_false,decide_eq_true_eq] at h
  exact ⟨by omega, fun x hx => by have := h.2 x hx; omega⟩
theorem any_take {α : Type} (p : α → Bool) (l : List α) (i : Nat) (h : i < l.length) : (l.take (i + 1)).any p = ((l.take i).any p || p l[i]) := by
  rw [List.take_succ_eq_append_getElem h, List.any_append]
  simp
end Go.Vc
namespace Go.Vc
open Go.Proofs
theorem vast7_c (l : List Nd) : PFun Tryd.prog 26 [encNs l] (.bool (vastB l)) := fun σ => by
  refine Contract.of_runs Tryd.func26 e26 k26 (by simp [c26]) ?_
  refine Runs.mix 4 ?_
  by_cases hl : l.length > 200
  · have q1 : ((l.length : Int) > 200) = True := by simp; omega
    (refine Runs.of_step Orc.nothing 300 ?_; simp -implicitDefEqProofs only [BB,seval,← decide_not,okind,vpre,vpure,intBin,intPre,strBin,strPre,popTo,argSlots,fldV,fldAV,subCells,idxVV,idxAAV,idxSV,sliceV,sliceSV,boundV,szIs,storeOp,storeS,setRowV,eff,extV,buildV,splice,eqSV,fitsL,eqCells,eqCell,minmaxV,capV,binBV,nilCheckV,bytesV,V.cells,V.stays,Orc.nothing,c26,lenV_encNs,q1])
    exact RetV.same (by simp [vastB, hl])
  · have q1 : ((l.length : Int) > 200) = False := by simp; omega
    (refine Runs.of_step Orc.nothing 300 ?_; simp -implicitDefEqProofs only [BB,seval,← decide_not,okind,vpre,vpure,intBin,intPre,strBin,strPre,popTo,argSlots,fldV,fldAV,subCells,idxVV,idxAAV,idxSV,sliceV,sliceSV,boundV,szIs,storeOp,storeS,setRowV,eff,extV,buildV,splice,eqSV,fitsL,eqCells,eqCell,minmaxV,capV,binBV,nilCheckV,bytesV,V.cells,V.stays,Orc.nothing,c26,lenV_encNs,q1])
    refine Runs.loop (fun m st => ∃ i : Nat, i ≤ l.length ∧ m = l.length - i ∧ (l.take i).any (fun x => decide (x.words.length > 100)) = false ∧ st.σ = σ ∧ st.s 0 = encNs l ∧ st.s 3 = vI i) l.length
      ⟨0, by omega, by omega, by simp, rfl, rfl, rfl⟩ ?_
    rintro m ⟨s, σ'⟩ ⟨i, hi, rfl, hp, hσ, h0, h3⟩
    simp only at hσ h0 h3
    subst hσ
    refine Runs.mix 4 ?_
    by_cases hlt : i < l.length
    · have hlt' : ((i : Int) < (l.length : Int)) = True := by simp; omega
      have hin : inR .i64 ((i : Int) + 1) := inR_i64 (by omega) (by omega)
      have ht := any_take (fun x : Nd => decide (x.words.length > 100)) l i hlt
      rw [hp, Bool.false_or] at ht
      have hix := fun σ => idxAV_encNs (σ := σ) hlt
      by_cases hw : l[i].words.length > 100
      · have q2 : ((l[i].words.length : Int) > 100) = True := by simp; omega
        (refine Runs.of_step Orc.nothing 300 ?_; simp -implicitDefEqProofs only [BB,seval,← decide_not,okind,vpre,vpure,intBin,intPre,strBin,strPre,popTo,argSlots,fldV,fldAV,subCells,idxVV,idxAAV,idxSV,sliceV,sliceSV,boundV,szIs,storeOp,storeS,setRowV,eff,extV,buildV,splice,eqSV,fitsL,eqCells,eqCell,minmaxV,capV,binBV,nilCheckV,bytesV,V.cells,V.stays,Orc.nothing,h0,h3,lenV_encNs,hlt',hix,Nd.cells,loadV_rp_encI,lenV_encI,q2])
        refine RetV.same ?_
        have : l.any (fun x => decide (x.words.length > 100)) = true := List.any_eq_true.2 ⟨_, List.getElem_mem hlt, by simp [hw]⟩
        simp only [vastB,this,Bool.or_true]
      · have q2 : ((l[i].words.length : Int) > 100) = False := by simp; omega
        (refine Runs.of_step Orc.nothing 300 ?_; simp -implicitDefEqProofs only [BB,seval,← decide_not,okind,vpre,vpure,intBin,intPre,strBin,strPre,popTo,argSlots,fldV,fldAV,subCells,idxVV,idxAAV,idxSV,sliceV,sliceSV,boundV,szIs,storeOp,storeS,setRowV,eff,extV,buildV,splice,eqSV,fitsL,eqCells,eqCell,minmaxV,capV,binBV,nilCheckV,bytesV,V.cells,V.stays,Orc.nothing,h0,h3,lenV_encNs,hlt',hix,Nd.cells,loadV_rp_encI,lenV_encI,q2,hin])
        exact ⟨_, by omega, i + 1, by omega, rfl, by rw [ht]; simp [hw], by simp⟩
    · have hlt' : ((i : Int) < (l.length : Int)) = False := by simp; omega
      have hie : i = l.length := by omega
      subst hie
      rw [List.take_length] at hp
      (refine Runs.of_step Orc.nothing 300 ?_; simp -implicitDefEqProofs only [BB,seval,← decide_not,okind,vpre,vpure,intBin,intPre,strBin,strPre,popTo,argSlots,fldV,fldAV,subCells,idxVV,idxAAV,idxSV,sliceV,sliceSV,boundV,szIs,storeOp,storeS,setRowV,eff,extV,buildV,splice,eqSV,fitsL,eqCells,eqCell,minmaxV,capV,binBV,nilCheckV,bytesV,V.cells,V.stays,Orc.nothing,h0,h3,lenV_encNs,hlt'])
      exact RetV.same (by simp only [vastB,hp,Bool.or_false]; simp [hl])
theorem canonBad_c (s : List UInt8) (hs : s.length ≤ 1000000) (he : (readR s).2.2 ≠ 0) : PFun Tryd.prog 30 [.str s] (.tup [.str [], vI (readR s).2.1, vI (readR s).2.2]) := fun σ => by
  refine Contract.of_runs Tryd.func30 e30 k30 (by simp [c30]) ?_
  refine Runs.mix 6 ?_
  (refine Runs.of_step Orc.nothing 300 ?_; simp -implicitDefEqProofs only [BB,seval,← decide_not,okind,vpre,vpure,intBin,intPre,strBin,strPre,popTo,argSlots,fldV,fldAV,subCells,idxVV,idxAAV,idxSV,sliceV,sliceSV,boundV,szIs,storeOp,storeS,setRowV,eff,extV,buildV,splice,eqSV,fitsL,eqCells,eqCell,minmaxV,capV,binBV,nilCheckV,bytesV,V.cells,V.stays,Orc.nothing,c30])
  refine Runs.pcall rfl rfl rfl (readOf_c s hs _) ?_
  have q : ((readR s).2.2 ≠ 0) = True := eq_true he
  (refine Runs.of_step Orc.nothing 300 ?_; simp -implicitDefEqProofs only [BB,seval,← decide_not,okind,vpre,vpure,intBin,intPre,strBin,strPre,popTo,argSlots,fldV,fldAV,subCells,idxVV,idxAAV,idxSV,sliceV,sliceSV,boundV,szIs,storeOp,storeS,setRowV,eff,extV,buildV,splice,eqSV,fitsL,eqCells,eqCell,minmaxV,capV,binBV,nilCheckV,bytesV,V.cells,V.stays,Orc.nothing,readV,q])
  exact RetV.same rfl
theorem canonOk_c (s : List UInt8) (hs : s.length ≤ 1000000) (xs : List Shp) (he : readR s = (toldL xs, 0, 0)) (hok : okSs xs) (hF : Fine (toldL xs)) (hcs : costs (toldL xs) ≤ 800000000) : PFun Tryd.prog 30 [.str s] (.tup [.str (txtL [10] xs), vI 0, vI 0]) := fun σ => by
  refine Contract.of_runs Tryd.func30 e30 k30 (by simp [c30]) ?_
  refine Runs.mix 6 ?_
  (refine Runs.of_step Orc.nothing 300 ?_; simp -implicitDefEqProofs only [BB,seval,← decide_not,okind,vpre,vpure,intBin,intPre,strBin,strPre,popTo,argSlots,fldV,fldAV,subCells,idxVV,idxAAV,idxSV,sliceV,sliceSV,boundV,szIs,storeOp,storeS,setRowV,eff,extV,buildV,splice,eqSV,fitsL,eqCells,eqCell,minmaxV,capV,binBV,nilCheckV,bytesV,V.cells,V.stays,Orc.nothing,c30])
  refine Runs.pcall rfl rfl rfl (readOf_c s hs _) ?_
  rw [he]
  (refine Runs.of_step Orc.nothing 300 ?_; simp -implicitDefEqProofs only [BB,seval,← decide_not,okind,vpre,vpure,intBin,intPre,strBin,strPre,popTo,argSlots,fldV,fldAV,subCells,idxVV,idxAAV,idxSV,sliceV,sliceSV,boundV,szIs,storeOp,storeS,setRowV,eff,extV,buildV,splice,eqSV,fitsL,eqCells,eqCell,minmaxV,capV,binBV,nilCheckV,bytesV,V.cells,V.stays,Orc.nothing,readV])
  refine Runs.pcall rfl rfl rfl (write_c xs hok hF hcs _) ?_
  (refine Runs.of_step Orc.nothing 300 ?_; simp -implicitDefEqProofs only [BB,seval,← decide_not,okind,vpre,vpure,intBin,intPre,strBin,strPre,popTo,argSlots,fldV,fldAV,subCells,idxVV,idxAAV,idxSV,sliceV,sliceSV,boundV,szIs,storeOp,storeS,setRowV,eff,extV,buildV,splice,eqSV,fitsL,eqCells,eqCell,minmaxV,capV,binBV,nilCheckV,bytesV,V.cells,V.stays,Orc.nothing])
  exact RetV.same rfl
theorem is7_c (s w : List UInt8) (hs : s.length ≤ 1000000) (xs : List Shp) (he : readR s = (toldL xs, 0, 0)) (hok : okSs xs) (hF : Fine (toldL xs)) (hcs : costs (toldL xs) ≤ 800000000) (ht : txtL [10] xs = w) : PFun Tryd.prog 50 [.str s, .str w] (.bool true) := fun σ => by
  refine Contract.of_runs Tryd.func50 e50 k50 (by simp [c50]) ?_
  refine Runs.mix 5 ?_
  (refine Runs.of_step Orc.nothing 300 ?_; simp -implicitDefEqProofs only [BB,seval,← decide_not,okind,vpre,vpure,intBin,intPre,strBin,strPre,popTo,argSlots,fldV,fldAV,subCells,idxVV,idxAAV,idxSV,sliceV,sliceSV,boundV,szIs,storeOp,storeS,setRowV,eff,extV,buildV,splice,eqSV,fitsL,eqCells,eqCell,minmaxV,capV,binBV,nilCheckV,bytesV,V.cells,V.stays,Orc.nothing,c50])
  refine Runs.pcall rfl rfl rfl (canonOk_c s hs xs he hok hF hcs _) ?_
  rw [ht]
  (refine Runs.of_step Orc.nothing 300 ?_; simp -implicitDefEqProofs only [BB,seval,← decide_not,okind,vpre,vpure,intBin,intPre,strBin,strPre,popTo,argSlots,fldV,fldAV,subCells,idxVV,idxAAV,idxSV,sliceV,sliceSV,boundV,szIs,storeOp,storeS,setRowV,eff,extV,buildV,splice,eqSV,fitsL,eqCells,eqCell,minmaxV,capV,binBV,nilCheckV,bytesV,V.cells,V.stays,Orc.nothing])
  exact RetV.same (by simp)
def exS : List Int := [5, 0, 0, 0, 0, 2, 2, 0, 2, 0, 0, 0]
def exX1 : List Shp := [.block exS [.text [10, 2, 30, 40]], .box 3 4]
def exX2 : List Shp := [.block [0, 0, 0, 0, 0, 2, 3, 0, 0, 0, 0, 0] [.float 1 2 2]]
theorem okL_of {s : List Int} (hl : s.length = 12) (h : (List.range 12).all (fun k => decide (loK k ≤ s.getD k 0) && decide (s.getD k 0 ≤ hiK k)) = true) : okL s := by
  intro k v hv
  have hk : k < 12 := by rw [← hl]; exact (List.getElem?_eq_some_iff.1 hv).1
  have := List.all_eq_true.1 h k (List.mem_range.2 hk)
  rw [List.getD_eq_getElem?_getD, hv] at this
  simpa using this
theorem exX1_ok : okSs exX1 :=
  ⟨⟨⟨rfl, okL_of rfl (by decide)⟩, ⟨⟨10, 2, 30, [40], rfl, by decide, by decide, by decide, by decide⟩, trivial⟩⟩, ⟨⟨by decide, by decide⟩, trivial⟩⟩
theorem exX2_ok : okSs exX2 :=
  ⟨⟨⟨rfl, okL_of rfl (by decide)⟩, ⟨⟨by decide, by decide, .inr rfl⟩, trivial⟩⟩, trivial⟩
theorem awake7_c : PFun Tryd.prog 27 [] (.bool true) := fun σ => by
  refine Contract.of_runs Tryd.func27 e27 k27 (by simp [c27]) ?_
  refine Runs.mix 5 ?_
  (refine Runs.of_step Orc.nothing 300 ?_; simp -implicitDefEqProofs only [BB,seval,← decide_not,okind,vpre,vpure,intBin,intPre,strBin,strPre,popTo,argSlots,fldV,fldAV,subCells,idxVV,idxAAV,idxSV,sliceV,sliceSV,boundV,szIs,storeOp,storeS,setRowV,eff,extV,buildV,splice,eqSV,fitsL,eqCells,eqCell,minmaxV,capV,binBV,nilCheckV,bytesV,V.cells,V.stays,Orc.nothing,c27])
  have h0 : (readR [91, 66, 50, 32, 109, 32, 53, 32, 40, 49, 48, 32, 50, 32, 51, 48, 32, 52, 48, 41, 32, 35, 32, 115, 111]).2.2 = 1 := by rw [← readF_eq]; kernel_rfl
  have h1 : readR [91, 66, 50, 32, 109, 32, 53, 32, 40, 49, 48, 32, 50, 32, 51, 48, 32, 52, 48, 41, 93, 32, 123, 32, 51, 32, 32, 52, 32, 125] = (toldL exX1, 0, 0) := by rw [← readF_eq]; kernel_rfl
  have h2 : readR [91, 111, 50, 32, 119, 51, 32, 109, 48, 32, 60, 82, 32, 49, 32, 50, 62, 93] = (toldL exX2, 0, 0) := by rw [← readF_eq]; kernel_rfl
  have h3 : readR [] = (toldL [], 0, 0) := by rw [← readF_eq]; kernel_rfl
  have t1 : txtL [10] exX1 = [91, 109, 53, 66, 50, 40, 49, 48, 32, 50, 32, 51, 48, 32, 52, 48, 41, 93, 10, 123, 51, 32, 52, 125, 10] := by kernel_rfl
  have t2 : txtL [10] exX2 = [91, 119, 51, 60, 82, 49, 32, 50, 62, 93, 10] := by kernel_rfl
  have c0 := canonBad_c [91, 66, 50, 32, 109, 32, 53, 32, 40, 49, 48, 32, 50, 32, 51, 48, 32, 52, 48, 41, 32, 35, 32, 115, 111] (by simp) (by rw [h0]; decide)
  rw [h0] at c0
  have f1 : Fine (toldL exX1) := ⟨by decide, by decide⟩
  have f2 : Fine (toldL exX2) := ⟨by decide, by decide⟩
  refine Runs.pcall rfl rfl rfl (c0 _) ?_
  (refine Runs.of_step Orc.nothing 300 ?_; simp -implicitDefEqProofs only [BB,seval,← decide_not,okind,vpre,vpure,intBin,intPre,strBin,strPre,popTo,argSlots,fldV,fldAV,subCells,idxVV,idxAAV,idxSV,sliceV,sliceSV,boundV,szIs,storeOp,storeS,setRowV,eff,extV,buildV,splice,eqSV,fitsL,eqCells,eqCell,minmaxV,capV,binBV,nilCheckV,bytesV,V.cells,V.stays,Orc.nothing])
  refine Runs.pcall rfl rfl rfl (is7_c _ _ (by simp) exX1 h1 exX1_ok f1 (by decide) t1 _) ?_
  (refine Runs.of_step Orc.nothing 300 ?_; simp -implicitDefEqProofs only [BB,seval,← decide_not,okind,vpre,vpure,intBin,intPre,strBin,strPre,popTo,argSlots,fldV,fldAV,subCells,idxVV,idxAAV,idxSV,sliceV,sliceSV,boundV,szIs,storeOp,storeS,setRowV,eff,extV,buildV,splice,eqSV,fitsL,eqCells,eqCell,minmaxV,capV,binBV,nilCheckV,bytesV,V.cells,V.stays,Orc.nothing])
  refine Runs.pcall rfl rfl rfl (is7_c _ _ (by simp) exX2 h2 exX2_ok f2 (by decide) t2 _) ?_
  (refine Runs.of_step Orc.nothing 300 ?_; simp -implicitDefEqProofs only [BB,seval,← decide_not,okind,vpre,vpure,intBin,intPre,strBin,strPre,popTo,argSlots,fldV,fldAV,subCells,idxVV,idxAAV,idxSV,sliceV,sliceSV,boundV,szIs,storeOp,storeS,setRowV,eff,extV,buildV,splice,eqSV,fitsL,eqCells,eqCell,minmaxV,capV,binBV,nilCheckV,bytesV,V.cells,V.stays,Orc.nothing])
  refine Runs.pcall rfl rfl rfl (is7_c _ _ (by simp) [] h3 trivial ⟨by simp [toldL], by simp [toldL]⟩ (by simp [toldL, costs]) rfl _) ?_
  (refine Runs.of_step Orc.nothing 300 ?_; simp -implicitDefEqProofs only [BB,seval,← decide_not,okind,vpre,vpure,intBin,intPre,strBin,strPre,popTo,argSlots,fldV,fldAV,subCells,idxVV,idxAAV,idxSV,sliceV,sliceSV,boundV,szIs,storeOp,storeS,setRowV,eff,extV,buildV,splice,eqSV,fitsL,eqCells,eqCell,minmaxV,capV,binBV,nilCheckV,bytesV,V.cells,V.stays,Orc.nothing])
  exact RetV.same rfl
end Go.Vc
namespace Go.Vc
open Go.Proofs
theorem rdig_c : ∀ (n : Nat), n ≤ 1099511627776 → PFun Tryd.prog 90 [vI n] (.str (Lib.decDigits n)) := by
  intro n
  induction n using Nat.strongRecOn with
  | _ n ih =>
  intro hn σ
  refine Contract.of_runs Tryd.func90 e90 k90 (by simp [c90]) ?_
  refine Runs.mix 4 ?_
  have hd : (n : Int).tmod 10 = ((n % 10 : Nat) : Int) := rfl
  have hq : (n : Int).tdiv 10 = ((n / 10 : Nat) : Int) := rfl
  have h10 : n % 10 < 10 := Nat.mod_lt _ (by omega)
  have r1 : inR .i64 (48 + ((n % 10 : Nat) : Int)) := inR_i64 (by omega) (by omega)
  have r2 : inR .u8 (48 + ((n % 10 : Nat) : Int)) := by unfold inR; rw [IntKind.wrap_u8]; omega
  have h48 : (48 + ((n % 10 : Nat) : Int)) = ((48 + n % 10 : Nat) : Int) := by omega
  (refine Runs.of_step Orc.nothing 300 ?_; simp -implicitDefEqProofs only [BB,seval,← decide_not,okind,vpre,vpure,intBin,intPre,strBin,strPre,popTo,argSlots,fldV,fldAV,subCells,idxVV,idxAAV,idxSV,sliceV,sliceSV,boundV,szIs,storeOp,storeS,setRowV,eff,extV,buildV,splice,eqSV,fitsL,eqCells,eqCell,minmaxV,capV,binBV,nilCheckV,bytesV,V.cells,V.stays,Orc.nothing,c90,hd,r1,r2])
  refine effR_new fun id1 σ1 s1 a1 f1 => ?_
  have hb : bytesV σ1 (.own id1 0 1) = some (.str [UInt8.ofNat (48 + n % 10)]) := by
    rw [h48] at a1
    simp only [bytesV,a1,List.length_cons,List.length_nil]
    rw [if_pos ⟨trivial, by omega⟩]
    simp only [List.drop_zero,List.take_succ_cons,List.take_zero,bytesOf,byteOf]
    rw [Int.toNat_natCast]; rfl
  by_cases h9 : n ≤ 9
  · have q9 : ((n : Int) > 9) = False := eq_false (by omega)
    simp -implicitDefEqProofs only [BB,seval,← decide_not,okind,vpre,vpure,intBin,intPre,strBin,strPre,popTo,argSlots,fldV,fldAV,subCells,idxVV,idxAAV,idxSV,sliceV,sliceSV,boundV,szIs,storeOp,storeS,setRowV,eff,extV,buildV,splice,eqSV,fitsL,eqCells,eqCell,minmaxV,capV,binBV,nilCheckV,V.cells,V.stays,hb,q9]
    refine RetV.pure s1 ?_
    rw [Lib.decDigits_one (by omega), Nat.mod_eq_of_lt (by omega)]
  · have q9 : ((n : Int) > 9) = True := eq_true (by omega)
    have r3 : inR .i64 ((n / 10 : Nat) : Int) := inR_i64 (by omega) (by omega)
    simp -implicitDefEqProofs only [BB,seval,← decide_not,okind,vpre,vpure,intBin,intPre,strBin,strPre,popTo,argSlots,fldV,fldAV,subCells,idxVV,idxAAV,idxSV,sliceV,sliceSV,boundV,szIs,storeOp,storeS,setRowV,eff,extV,buildV,splice,eqSV,fitsL,eqCells,eqCell,minmaxV,capV,binBV,nilCheckV,V.cells,V.stays,hb,q9,hq,r3]
    refine Runs.pcall rfl rfl rfl (ih (n / 10) (by omega) (by omega) _) ?_
    (refine Runs.of_step Orc.nothing 300 ?_; simp -implicitDefEqProofs only [BB,seval,← decide_not,okind,vpre,vpure,intBin,intPre,strBin,strPre,popTo,argSlots,fldV,fldAV,subCells,idxVV,idxAAV,idxSV,sliceV,sliceSV,boundV,szIs,storeOp,storeS,setRowV,eff,extV,buildV,splice,eqSV,fitsL,eqCells,eqCell,minmaxV,capV,binBV,nilCheckV,bytesV,V.cells,V.stays,Orc.nothing])
    have hl := dec_lim (n / 10) (by omega)
    rw [dec_step n (by omega)]
    exact ⟨by omega, RetV.pure s1 rfl⟩
theorem rdg_c (n : Int) (h : inN n) : PFun Tryd.prog 90 [vI n] (.str (dg n)) := by
  have := rdig_c n.toNat (by unfold inN at h; omega)
  rwa [show ((n.toNat : Nat) : Int) = n by unfold inN at h; omega] at this
theorem rtold_c (b : List UInt8) (n p : Int) (h : inN n) (hb : b.length ≤ 100) : PFun Tryd.prog 108 [.str b, vI n, vI p] (.str (if n = p then [] else b ++ dg n)) := fun σ => by
  refine Contract.of_runs Tryd.func108 e108 k108 (by simp [c108]) ?_
  refine Runs.mix 7 ?_
  by_cases hp : n = p
  · have q : (n = p) = True := eq_true hp
    (refine Runs.of_step Orc.nothing 300 ?_; simp -implicitDefEqProofs only [BB,seval,← decide_not,okind,vpre,vpure,intBin,intPre,strBin,strPre,popTo,argSlots,fldV,fldAV,subCells,idxVV,idxAAV,idxSV,sliceV,sliceSV,boundV,szIs,storeOp,storeS,setRowV,eff,extV,buildV,splice,eqSV,fitsL,eqCells,eqCell,minmaxV,capV,binBV,nilCheckV,bytesV,V.cells,V.stays,Orc.nothing,c108,q])
    exact RetV.same rfl
  · have q : (n = p) = False := eq_false hp
    (refine Runs.of_step Orc.nothing 300 ?_; simp -implicitDefEqProofs only [BB,seval,← decide_not,okind,vpre,vpure,intBin,intPre,strBin,strPre,popTo,argSlots,fldV,fldAV,subCells,idxVV,idxAAV,idxSV,sliceV,sliceSV,boundV,szIs,storeOp,storeS,setRowV,eff,extV,buildV,splice,eqSV,fitsL,eqCells,eqCell,minmaxV,capV,binBV,nilCheckV,bytesV,V.cells,V.stays,Orc.nothing,c108,q])
    refine Runs.pcall rfl rfl rfl (rdg_c n h _) ?_
    have hl := (dg_len h).1
    (refine Runs.of_step Orc.nothing 300 ?_; simp -implicitDefEqProofs only [BB,seval,← decide_not,okind,vpre,vpure,intBin,intPre,strBin,strPre,popTo,argSlots,fldV,fldAV,subCells,idxVV,idxAAV,idxSV,sliceV,sliceSV,boundV,szIs,storeOp,storeS,setRowV,eff,extV,buildV,splice,eqSV,fitsL,eqCells,eqCell,minmaxV,capV,binBV,nilCheckV,bytesV,V.cells,V.stays,Orc.nothing])
    exact ⟨by omega, RetV.same rfl⟩
end Go.Vc
namespace Go.Vc
open Go.Proofs
theorem told_len (b : UInt8) (n p : Int) (h : inN n) : (if n = p then [] else [b] ++ dg n).length ≤ 14 := by
  have := (dg_len h).1
  split
  · simp
  · simp; omega
set_option maxRecDepth 100000 in
set_option maxHeartbeats 1000000 in
theorem rstyle_c (s : List Int) (h : s.length = 12) (hin : ∀ j, inN (s.getD j 0)) : PFun Tryd.prog 89 [.agg (s.map vI)] (.str (attX s 12 0)) := fun σ => by
  obtain ⟨a0, a1, a2, a3, a4, a5, a6, a7, a8, a9, a10, a11, rfl⟩ : ∃ a0 a1 a2 a3 a4 a5 a6 a7 a8 a9 a10 a11, s = [a0, a1, a2, a3, a4, a5, a6, a7, a8, a9, a10, a11] := by
    match s, h with
    | [a0, a1, a2, a3, a4, a5, a6, a7, a8, a9, a10, a11], _ => exact ⟨_, _, _, _, _, _, _, _, _, _, _, _, rfl⟩
  have c0 := rtold_c [109] a0 0 (by simpa using hin 0) (by simp)
  have l0 := told_len 109 a0 0 (by simpa using hin 0)
  have c1 := rtold_c [110] a1 0 (by simpa using hin 1) (by simp)
  have l1 := told_len 110 a1 0 (by simpa using hin 1)
  have c2 := rtold_c [112] a2 0 (by simpa using hin 2) (by simp)
  have l2 := told_len 112 a2 0 (by simpa using hin 2)
  have c3 := rtold_c [113] a3 0 (by simpa using hin 3) (by simp)
  have l3 := told_len 113 a3 0 (by simpa using hin 3)
  have c4 := rtold_c [105] a4 0 (by simpa using hin 4) (by simp)
  have l4 := told_len 105 a4 0 (by simpa using hin 4)
  have c5 := rtold_c [111] a5 2 (by simpa using hin 5) (by simp)
  have l5 := told_len 111 a5 2 (by simpa using hin 5)
  have c6 := rtold_c [119] a6 2 (by simpa using hin 6) (by simp)
  have l6 := told_len 119 a6 2 (by simpa using hin 6)
  have c7 := rtold_c [104] a7 0 (by simpa using hin 7) (by simp)
  have l7 := told_len 104 a7 0 (by simpa using hin 7)
  have c8 := rtold_c [66] a8 0 (by simpa using hin 8) (by simp)
  have l8 := told_len 66 a8 0 (by simpa using hin 8)
  have c9 := rtold_c [65] a9 0 (by simpa using hin 9) (by simp)
  have l9 := told_len 65 a9 0 (by simpa using hin 9)
  have c10 := rtold_c [73] a10 0 (by simpa using hin 10) (by simp)
  have l10 := told_len 73 a10 0 (by simpa using hin 10)
  have c11 := rtold_c [99] a11 0 (by simpa using hin 11) (by simp)
  have l11 := told_len 99 a11 0 (by simpa using hin 11)
  have hat : attX [a0, a1, a2, a3, a4, a5, a6, a7, a8, a9, a10, a11] 12 0 = ((((((((((((if a0 = 0 then [] else [109] ++ dg a0) ++ (if a1 = 0 then [] else [110] ++ dg a1)) ++ (if a2 = 0 then [] else [112] ++ dg a2)) ++ (if a3 = 0 then [] else [113] ++ dg a3)) ++ (if a4 = 0 then [] else [105] ++ dg a4)) ++ (if a5 = 2 then [] else [111] ++ dg a5)) ++ (if a6 = 2 then [] else [119] ++ dg a6)) ++ (if a7 = 0 then [] else [104] ++ dg a7)) ++ (if a8 = 0 then [] else [66] ++ dg a8)) ++ (if a9 = 0 then [] else [65] ++ dg a9)) ++ (if a10 = 0 then [] else [73] ++ dg a10)) ++ (if a11 = 0 then [] else [99] ++ dg a11)) := by
    simp only [attX,plainS,lettersB,List.getD_cons_zero,List.getD_cons_succ,List.append_assoc,List.cons_append,List.nil_append,List.append_nil]
  rw [hat]
  generalize (if a0 = 0 then [] else [109] ++ dg a0) = w0 at *
  generalize (if a1 = 0 then [] else [110] ++ dg a1) = w1 at *
  generalize (if a2 = 0 then [] else [112] ++ dg a2) = w2 at *
  generalize (if a3 = 0 then [] else [113] ++ dg a3) = w3 at *
  generalize (if a4 = 0 then [] else [105] ++ dg a4) = w4 at *
  generalize (if a5 = 2 then [] else [111] ++ dg a5) = w5 at *
  generalize (if a6 = 2 then [] else [119] ++ dg a6) = w6 at *
  generalize (if a7 = 0 then [] else [104] ++ dg a7) = w7 at *
  generalize (if a8 = 0 then [] else [66] ++ dg a8) = w8 at *
  generalize (if a9 = 0 then [] else [65] ++ dg a9) = w9 at *
  generalize (if a10 = 0 then [] else [73] ++ dg a10) = w10 at *
  generalize (if a11 = 0 then [] else [99] ++ dg a11) = w11 at *
  refine Contract.of_runs Tryd.func89 e89 k89 (by simp [c89]) ?_
  refine Runs.mix 3 ?_
  (refine Runs.of_step Orc.nothing 300 ?_; simp -implicitDefEqProofs only [BB,seval,← decide_not,okind,vpre,vpure,intBin,intPre,strBin,strPre,popTo,argSlots,fldV,fldAV,subCells,idxVV,idxAAV,idxSV,sliceV,sliceSV,boundV,szIs,storeOp,storeS,setRowV,eff,extV,buildV,splice,eqSV,fitsL,eqCells,eqCell,minmaxV,capV,binBV,nilCheckV,bytesV,V.cells,V.stays,Orc.nothing,c89])
  refine effR_new fun id1 σ1 s1 r1 f1 => ?_
  simp -implicitDefEqProofs only [BB,seval,← decide_not,okind,vpre,vpure,intBin,intPre,strBin,strPre,popTo,argSlots,fldV,fldAV,subCells,idxVV,idxAAV,idxSV,sliceV,sliceSV,boundV,szIs,storeOp,storeS,setRowV,eff,extV,buildV,splice,eqSV,fitsL,eqCells,eqCell,minmaxV,capV,binBV,nilCheckV,bytesV,V.cells,V.stays,r1]
  refine Go.pcallG rfl rfl rfl c0 ?_
  (refine Go.of_step Orc.nothing 300 _ _ ?_; simp -implicitDefEqProofs only [BB,seval,← decide_not,okind,vpre,vpure,intBin,intPre,strBin,strPre,popTo,argSlots,fldV,fldAV,subCells,idxVV,idxAAV,idxSV,sliceV,sliceSV,boundV,szIs,storeOp,storeS,setRowV,eff,extV,buildV,splice,eqSV,fitsL,eqCells,eqCell,minmaxV,capV,binBV,nilCheckV,bytesV,V.cells,V.stays,Orc.nothing,r1])
  refine Go.pcallG rfl rfl rfl c1 ?_
  (refine Go.of_step Orc.nothing 300 _ _ ?_; simp -implicitDefEqProofs only [BB,seval,← decide_not,okind,vpre,vpure,intBin,intPre,strBin,strPre,popTo,argSlots,fldV,fldAV,subCells,idxVV,idxAAV,idxSV,sliceV,sliceSV,boundV,szIs,storeOp,storeS,setRowV,eff,extV,buildV,splice,eqSV,fitsL,eqCells,eqCell,minmaxV,capV,binBV,nilCheckV,bytesV,V.cells,V.stays,Orc.nothing,r1])
  refine ⟨by (try simp only [List.length_append]); omega, ?_⟩
  refine Go.pcallG rfl rfl rfl c2 ?_
  (refine Go.of_step Orc.nothing 300 _ _ ?_; simp -implicitDefEqProofs only [BB,seval,← decide_not,okind,vpre,vpure,intBin,intPre,strBin,strPre,popTo,argSlots,fldV,fldAV,subCells,idxVV,idxAAV,idxSV,sliceV,sliceSV,boundV,szIs,storeOp,storeS,setRowV,eff,extV,buildV,splice,eqSV,fitsL,eqCells,eqCell,minmaxV,capV,binBV,nilCheckV,bytesV,V.cells,V.stays,Orc.nothing,r1])
  refine ⟨by (try simp only [List.length_append]); omega, ?_⟩
  refine Go.pcallG rfl rfl rfl c3 ?_
  (refine Go.of_step Orc.nothing 300 _ _ ?_; simp -implicitDefEqProofs only [BB,seval,← decide_not,okind,vpre,vpure,intBin,intPre,strBin,strPre,popTo,argSlots,fldV,fldAV,subCells,idxVV,idxAAV,idxSV,sliceV,sliceSV,boundV,szIs,storeOp,storeS,setRowV,eff,extV,buildV,splice,eqSV,fitsL,eqCells,eqCell,minmaxV,capV,binBV,nilCheckV,bytesV,V.cells,V.stays,Orc.nothing,r1])
  refine ⟨by (try simp only [List.length_append]); omega, ?_⟩
  refine Go.pcallG rfl rfl rfl c4 ?_
  (refine Go.of_step Orc.nothing 300 _ _ ?_; simp -implicitDefEqProofs only [BB,seval,← decide_not,okind,vpre,vpure,intBin,intPre,strBin,strPre,popTo,argSlots,fldV,fldAV,subCells,idxVV,idxAAV,idxSV,sliceV,sliceSV,boundV,szIs,storeOp,storeS,setRowV,eff,extV,buildV,splice,eqSV,fitsL,eqCells,eqCell,minmaxV,capV,binBV,nilCheckV,bytesV,V.cells,V.stays,Orc.nothing,r1])
  refine ⟨by (try simp only [List.length_append]); omega, ?_⟩
  refine Go.pcallG rfl rfl rfl c5 ?_
  (refine Go.of_step Orc.nothing 300 _ _ ?_; simp -implicitDefEqProofs only [BB,seval,← decide_not,okind,vpre,vpure,intBin,intPre,strBin,strPre,popTo,argSlots,fldV,fldAV,subCells,idxVV,idxAAV,idxSV,sliceV,sliceSV,boundV,szIs,storeOp,storeS,setRowV,eff,extV,buildV,splice,eqSV,fitsL,eqCells,eqCell,minmaxV,capV,binBV,nilCheckV,bytesV,V.cells,V.stays,Orc.nothing,r1])
  refine ⟨by (try simp only [List.length_append]); omega, ?_⟩
  refine Go.pcallG rfl rfl rfl c6 ?_
  (refine Go.of_step Orc.nothing 300 _ _ ?_; simp -implicitDefEqProofs only [BB,seval,← decide_not,okind,vpre,vpure,intBin,intPre,strBin,strPre,popTo,argSlots,fldV,fldAV,subCells,idxVV,idxAAV,idxSV,sliceV,sliceSV,boundV,szIs,storeOp,storeS,setRowV,eff,extV,buildV,splice,eqSV,fitsL,eqCells,eqCell,minmaxV,capV,binBV,nilCheckV,bytesV,V.cells,V.stays,Orc.nothing,r1])
  refine ⟨by (try simp only [List.length_append]); omega, ?_⟩
  refine Go.pcallG rfl rfl rfl c7 ?_
  (refine Go.of_step Orc.nothing 300 _ _ ?_; simp -implicitDefEqProofs only [BB,seval,← decide_not,okind,vpre,vpure,intBin,intPre,strBin,strPre,popTo,argSlots,fldV,fldAV,subCells,idxVV,idxAAV,idxSV,sliceV,sliceSV,boundV,szIs,storeOp,storeS,setRowV,eff,extV,buildV,splice,eqSV,fitsL,eqCells,eqCell,minmaxV,capV,binBV,nilCheckV,bytesV,V.cells,V.stays,Orc.nothing,r1])
  refine ⟨by (try simp only [List.length_append]); omega, ?_⟩
  refine Go.pcallG rfl rfl rfl c8 ?_
  (refine Go.of_step Orc.nothing 300 _ _ ?_; simp -implicitDefEqProofs only [BB,seval,← decide_not,okind,vpre,vpure,intBin,intPre,strBin,strPre,popTo,argSlots,fldV,fldAV,subCells,idxVV,idxAAV,idxSV,sliceV,sliceSV,boundV,szIs,storeOp,storeS,setRowV,eff,extV,buildV,splice,eqSV,fitsL,eqCells,eqCell,minmaxV,capV,binBV,nilCheckV,bytesV,V.cells,V.stays,Orc.nothing,r1])
  refine ⟨by (try simp only [List.length_append]); omega, ?_⟩
  refine Go.pcallG rfl rfl rfl c9 ?_
  (refine Go.of_step Orc.nothing 300 _ _ ?_; simp -implicitDefEqProofs only [BB,seval,← decide_not,okind,vpre,vpure,intBin,intPre,strBin,strPre,popTo,argSlots,fldV,fldAV,subCells,idxVV,idxAAV,idxSV,sliceV,sliceSV,boundV,szIs,storeOp,storeS,setRowV,eff,extV,buildV,splice,eqSV,fitsL,eqCells,eqCell,minmaxV,capV,binBV,nilCheckV,bytesV,V.cells,V.stays,Orc.nothing,r1])
  refine ⟨by (try simp only [List.length_append]); omega, ?_⟩
  refine Go.pcallG rfl rfl rfl c10 ?_
  (refine Go.of_step Orc.nothing 300 _ _ ?_; simp -implicitDefEqProofs only [BB,seval,← decide_not,okind,vpre,vpure,intBin,intPre,strBin,strPre,popTo,argSlots,fldV,fldAV,subCells,idxVV,idxAAV,idxSV,sliceV,sliceSV,boundV,szIs,storeOp,storeS,setRowV,eff,extV,buildV,splice,eqSV,fitsL,eqCells,eqCell,minmaxV,capV,binBV,nilCheckV,bytesV,V.cells,V.stays,Orc.nothing,r1])
  refine ⟨by (try simp only [List.length_append]); omega, ?_⟩
  refine Go.pcallG rfl rfl rfl c11 ?_
  (refine Go.of_step Orc.nothing 300 _ _ ?_; simp -implicitDefEqProofs only [BB,seval,← decide_not,okind,vpre,vpure,intBin,intPre,strBin,strPre,popTo,argSlots,fldV,fldAV,subCells,idxVV,idxAAV,idxSV,sliceV,sliceSV,boundV,szIs,storeOp,storeS,setRowV,eff,extV,buildV,splice,eqSV,fitsL,eqCells,eqCell,minmaxV,capV,binBV,nilCheckV,bytesV,V.cells,V.stays,Orc.nothing,r1])
  exact ⟨by simp only [List.length_append]; omega, RetV.pure s1 rfl⟩
end Go.Vc
namespace Go.Vc
open Go.Proofs
def wordsX (ws : List Int) : List UInt8 := ws.flatMap fun w => 32 :: dg w
theorem joinX_flat : ∀ (a : Int) (ws : List Int), joinX (a :: ws) = dg a ++ wordsX ws
  | a, [] => by simp [joinX, wordsX]
  | a, b :: ws => by rw [joinX, joinX_flat b ws]; simp [wordsX]
theorem wordsX_take (ws : List Int) (i : Nat) (h : i < ws.length) : wordsX (ws.take (i + 1)) = wordsX (ws.take i) ++ (32 :: dg ws[i]) := by
  unfold wordsX; rw [List.take_succ_eq_append_getElem h, List.flatMap_append]; simp
theorem wordsX_len {ws : List Int} (h : ∀ n ∈ ws, inN n) : (wordsX ws).length ≤ 14 * ws.length := by
  induction ws with
  | nil => simp [wordsX]
  | cons a ws ih =>
    have h1 := ih (fun n hn => h n (by simp [hn]))
    have h2 := (dg_len (h a (by simp))).1
    simp only [wordsX,List.flatMap_cons,List.length_append,List.length_cons] at h1 ⊢
    omega
theorem window_cons {l : List Nd} {a q : Nat} {x : Nd} {tl : List Nd} (h : (l.drop a).take (q - a) = x :: tl) (hq : q ≤ l.length) : a < q ∧ (∃ h : a < l.length, l[a] = x) ∧ ∀ k, k ≤ (x :: tl).length → (l.drop (a + k)).take (q - (a + k)) = (x :: tl).drop k := by
  have hl : ((l.drop a).take (q - a)).length = (x :: tl).length := by rw [h]
  simp only [List.length_take,List.length_drop,List.length_cons] at hl
  have ha : a < q := by omega
  refine ⟨ha, ⟨by omega, ?_⟩, fun k hk => ?_⟩
  · have : ((l.drop a).take (q - a))[0]? = some x := by rw [h]; rfl
    rw [List.getElem?_take, if_pos (by omega), List.getElem?_drop, Nat.add_zero, List.getElem?_eq_getElem (by omega)] at this
    simpa using this
  · rw [← h, List.drop_take, List.drop_drop]
    congr 1; omega
theorem encI_staysA (l : List Int) : (encI l).stays = true := rfl
def textCells (x : Nd) : List V := [vI 2, vI x.size, vI x.st.top, vI x.st.bottom, vI x.st.padTop, vI x.st.padBottom, vI x.st.inset, vI x.st.orphans, vI x.st.widows, vI x.st.head, vI x.st.before, vI x.st.after, vI x.st.inside, vI x.st.clear,
  vI x.line, vI x.space, encI x.words, vI x.side, vI x.w, vI x.h]
set_option maxRecDepth 100000 in
theorem rtext_c : ∀ (m : Nat) (xs : List Shp), (toldL xs).length < m → okSs xs → ∀ (e : List UInt8) (l : List Nd) (p q : Nat), e.length ≤ 1 → costs (toldL xs) ≤ 800000000 → l.length ≤ 100000000 → q ≤ l.length → (l.drop p).take (q - p) = toldL xs → p ≤ q →
    PFun Tryd.prog 58 [encNs l, vI p, vI q, .str e] (.str (txtL e xs)) := by
  intro m
  induction m with
  | zero => intro xs hm; omega
  | succ m ih => ?_
  intro xs hm hok e l p q he hb hbig hq hw hpq σ
  refine Contract.of_runs Tryd.func58 e58 k58 (by simp [c58]) ?_
  refine Runs.mix 12 ?_
  (refine Runs.of_step Orc.nothing 300 ?_; simp -implicitDefEqProofs only [BB,seval,← decide_not,okind,vpre,vpure,intBin,intPre,strBin,strPre,popTo,argSlots,fldV,fldAV,subCells,idxVV,idxAAV,idxSV,sliceV,sliceSV,boundV,szIs,storeOp,storeS,setRowV,eff,extV,buildV,splice,eqSV,fitsL,eqCells,eqCell,minmaxV,capV,binBV,nilCheckV,bytesV,V.cells,V.stays,Orc.nothing,c58])
  refine Runs.loop (fun z st => ∃ (dn rs : List Shp) (a : Nat), xs = dn ++ rs ∧ z = rs.length ∧ (l.drop a).take (q - a) = toldL rs ∧ a ≤ q ∧ SubStore σ st.σ ∧ st.s 0 = encNs l ∧ st.s 1 = vI a ∧ st.s 2 = vI q ∧ st.s 3 = .str e ∧ st.s 9 = .str (txtL e dn)) xs.length ?_ ?_
  · exact ⟨[], xs, p, rfl, rfl, hw, hpq, SubStore.refl _, rfl, rfl, rfl, rfl, rfl⟩
  rintro z ⟨S, σ1⟩ ⟨dn, rs, a, rfl, rfl, hwa, haq, hsub, h0, h1, h2, h3, h9⟩
  simp only at h0 h1 h2 h3 h9 hsub
  refine Runs.mix 12 ?_
  cases rs with
  | nil =>
    have ha : a = q := by
      have := congrArg List.length hwa
      simp only [List.length_take,List.length_drop,toldL,List.length_nil] at this
      omega
    have hlt : ((a : Int) < (q : Int)) = False := eq_false (by omega)
    (refine Runs.of_step Orc.nothing 300 ?_; simp -implicitDefEqProofs only [BB,seval,← decide_not,okind,vpre,vpure,intBin,intPre,strBin,strPre,popTo,argSlots,fldV,fldAV,subCells,idxVV,idxAAV,idxSV,sliceV,sliceSV,boundV,szIs,storeOp,storeS,setRowV,eff,extV,buildV,splice,eqSV,fitsL,eqCells,eqCell,minmaxV,capV,binBV,nilCheckV,bytesV,V.cells,V.stays,Orc.nothing,h0,h1,h2,h3,h9,hlt])
    exact RetV.pure hsub (by simp)
  | cons y rs =>
    obtain ⟨hoky, hokr⟩ := okSs_right hok
    have hcst := hb
    rw [toldL_append, toldL, costs_app, costs_app] at hcst
    have hdl := txtL_len dn (okSs_left hok) e he
    have hyl := txtS_len y hoky
    have hnext : dn ++ y :: rs = (dn ++ [y]) ++ rs := by simp
    have htxt : txtL e (dn ++ [y]) = txtL e dn ++ (txtS y ++ e) := by rw [txtL_append]; simp [txtL]
    generalize hD : txtL e dn = D at *
    cases y with
    | box w h =>
      have iw := inN_of hoky.1
      have ih' := inN_of hoky.2
      have hL : toldL (.box w h :: rs) = ndS (.box w h) :: toldL rs := rfl
      rw [hL] at hwa
      obtain ⟨g1, ⟨g2, g3⟩, g4⟩ := window_cons hwa hq
      have g5 := g4 1 (by simp)
      have hix := fun σ => idxAV_encNs (σ := σ) (l := l) g2
      rw [g3] at hix
      have hlt : ((a : Int) < (q : Int)) = True := eq_true (by omega)
      have k1 : (ndS (.box w h)).kind = 3 := rfl
      have k2 : (ndS (.box w h)).size = 1 := rfl
      have k3 : (ndS (.box w h)).w = w := rfl
      have k4 : (ndS (.box w h)).h = h := rfl
      have d1 := (dg_len iw).1
      have d2 := (dg_len ih').1
      have r1 : inR .i64 ((a : Int) + 1) := inR_i64 (by omega) (by omega)
      generalize ndS (.box w h) = x at *
      (refine Runs.of_step Orc.nothing 300 ?_; simp -implicitDefEqProofs only [BB,seval,← decide_not,okind,vpre,vpure,intBin,intPre,strBin,strPre,popTo,argSlots,fldV,fldAV,subCells,idxVV,idxAAV,idxSV,sliceV,sliceSV,boundV,szIs,storeOp,storeS,setRowV,eff,extV,buildV,splice,eqSV,fitsL,eqCells,eqCell,minmaxV,capV,binBV,nilCheckV,bytesV,V.cells,V.stays,Orc.nothing,h0,h1,h2,h3,h9,hlt,hix,loadV_rp_node,encN,Nd.cells,encI_staysA])
      refine effR_new fun id6 σ6 s6 r6 f6 => ?_
      simp -implicitDefEqProofs only [BB,seval,← decide_not,okind,vpre,vpure,intBin,intPre,strBin,strPre,popTo,argSlots,fldV,fldAV,subCells,idxVV,idxAAV,idxSV,sliceV,sliceSV,boundV,szIs,storeOp,storeS,setRowV,eff,extV,buildV,splice,eqSV,fitsL,eqCells,eqCell,minmaxV,capV,binBV,nilCheckV,bytesV,V.cells,V.stays,r6,h0,h1,h2,h3,h9,k1,encI_staysA]
      refine ⟨by omega, ?_⟩
      refine Go.pcallG rfl rfl rfl (rdg_c x.w (by rw [k3]; exact iw)) ?_
      rw [← k3] at d1
      rw [← k4] at d2
      (refine Go.of_step Orc.nothing 300 _ _ ?_; simp -implicitDefEqProofs only [BB,seval,← decide_not,okind,vpre,vpure,intBin,intPre,strBin,strPre,popTo,argSlots,fldV,fldAV,subCells,idxVV,idxAAV,idxSV,sliceV,sliceSV,boundV,szIs,storeOp,storeS,setRowV,eff,extV,buildV,splice,eqSV,fitsL,eqCells,eqCell,minmaxV,capV,binBV,nilCheckV,bytesV,V.cells,V.stays,Orc.nothing,r6,h0,h1,h2,h3,h9,k1,encI_staysA])
      refine ⟨by simp only [List.length_append,List.length_cons,List.length_nil]; omega, by simp only [List.length_append,List.length_cons,List.length_nil]; omega, ?_⟩
      refine Go.pcallG rfl rfl rfl (rdg_c x.h (by rw [k4]; exact ih')) ?_
      (refine Go.of_step Orc.nothing 300 _ _ ?_; simp -implicitDefEqProofs only [BB,seval,← decide_not,okind,vpre,vpure,intBin,intPre,strBin,strPre,popTo,argSlots,fldV,fldAV,subCells,idxVV,idxAAV,idxSV,sliceV,sliceSV,boundV,szIs,storeOp,storeS,setRowV,eff,extV,buildV,splice,eqSV,fitsL,eqCells,eqCell,minmaxV,capV,binBV,nilCheckV,bytesV,V.cells,V.stays,Orc.nothing,r6,h0,h1,h2,h3,h9,k1,k2,r1,encI_staysA])
      refine ⟨by simp only [List.length_append,List.length_cons,List.length_nil]; omega, by simp only [List.length_append,List.length_cons,List.length_nil]; omega, by simp only [List.length_append,List.length_cons,List.length_nil]; omega, _, Nat.lt_succ_self _, dn ++ [.box w h], rs, a + 1, hnext, rfl, by simpa using g5, by omega, hsub.trans (s6.updK f6), by simp, ?_⟩
      rw [htxt, txtS, k3, k4]; simp [joinX]
    | float w h d =>
      have iw := inN_of hoky.1
      have ih' := inN_of hoky.2.1
      have hL : toldL (.float w h d :: rs) = ndS (.float w h d) :: toldL rs := rfl
      rw [hL] at hwa
      obtain ⟨g1, ⟨g2, g3⟩, g4⟩ := window_cons hwa hq
      have g5 := g4 1 (by simp)
      have hix := fun σ => idxAV_encNs (σ := σ) (l := l) g2
      rw [g3] at hix
      have hlt : ((a : Int) < (q : Int)) = True := eq_true (by omega)
      have k1 : (ndS (.float w h d)).kind = 4 := rfl
      have k2 : (ndS (.float w h d)).size = 1 := rfl
      have k3 : (ndS (.float w h d)).w = w := rfl
      have k4 : (ndS (.float w h d)).h = h := rfl
      have k5 : (ndS (.float w h d)).side = d := rfl
      have d1 := (dg_len iw).1
      have d2 := (dg_len ih').1
      have r1 : inR .i64 ((a : Int) + 1) := inR_i64 (by omega) (by omega)
      have hd := hoky.2.2
      generalize ndS (.float w h d) = x at *
      rw [← k3] at d1
      rw [← k4] at d2
      rcases hd with rfl | rfl
      all_goals
        (refine Runs.of_step Orc.nothing 300 ?_; simp -implicitDefEqProofs only [BB,seval,← decide_not,okind,vpre,vpure,intBin,intPre,strBin,strPre,popTo,argSlots,fldV,fldAV,subCells,idxVV,idxAAV,idxSV,sliceV,sliceSV,boundV,szIs,storeOp,storeS,setRowV,eff,extV,buildV,splice,eqSV,fitsL,eqCells,eqCell,minmaxV,capV,binBV,nilCheckV,bytesV,V.cells,V.stays,Orc.nothing,h0,h1,h2,h3,h9,hlt,hix,loadV_rp_node,encN,Nd.cells,encI_staysA])
        refine effR_new fun id6 σ6 s6 r6 f6 => ?_
        simp -implicitDefEqProofs only [BB,seval,← decide_not,okind,vpre,vpure,intBin,intPre,strBin,strPre,popTo,argSlots,fldV,fldAV,subCells,idxVV,idxAAV,idxSV,sliceV,sliceSV,boundV,szIs,storeOp,storeS,setRowV,eff,extV,buildV,splice,eqSV,fitsL,eqCells,eqCell,minmaxV,capV,binBV,nilCheckV,bytesV,V.cells,V.stays,r6,h0,h1,h2,h3,h9,k1,k5,encI_staysA]
        refine ⟨by omega, ?_⟩
        refine Go.pcallG rfl rfl rfl (rdg_c x.w (by rw [k3]; exact iw)) ?_
        (refine Go.of_step Orc.nothing 300 _ _ ?_; simp -implicitDefEqProofs only [BB,seval,← decide_not,okind,vpre,vpure,intBin,intPre,strBin,strPre,popTo,argSlots,fldV,fldAV,subCells,idxVV,idxAAV,idxSV,sliceV,sliceSV,boundV,szIs,storeOp,storeS,setRowV,eff,extV,buildV,splice,eqSV,fitsL,eqCells,eqCell,minmaxV,capV,binBV,nilCheckV,bytesV,V.cells,V.stays,Orc.nothing,r6,h0,h1,h2,h3,h9,k1,k5,encI_staysA])
        refine ⟨by simp only [List.length_append,List.length_cons,List.length_nil]; omega, by simp only [List.length_append,List.length_cons,List.length_nil]; omega, ?_⟩
        refine Go.pcallG rfl rfl rfl (rdg_c x.h (by rw [k4]; exact ih')) ?_
        (refine Go.of_step Orc.nothing 300 _ _ ?_; simp -implicitDefEqProofs only [BB,seval,← decide_not,okind,vpre,vpure,intBin,intPre,strBin,strPre,popTo,argSlots,fldV,fldAV,subCells,idxVV,idxAAV,idxSV,sliceV,sliceSV,boundV,szIs,storeOp,storeS,setRowV,eff,extV,buildV,splice,eqSV,fitsL,eqCells,eqCell,minmaxV,capV,binBV,nilCheckV,bytesV,V.cells,V.stays,Orc.nothing,r6,h0,h1,h2,h3,h9,k1,k2,k5,r1,encI_staysA])
        refine ⟨by simp only [List.length_append,List.length_cons,List.length_nil]; omega, by simp only [List.length_append,List.length_cons,List.length_nil]; omega, by simp only [List.length_append,List.length_cons,List.length_nil]; omega, _, Nat.lt_succ_self _, dn ++ [.float w h _], rs, a + 1, hnext, rfl, by simpa using g5, by omega, hsub.trans (s6.updK f6), by simp, ?_⟩
        rw [htxt, txtS, k3, k4]; simp [joinX]
    | text ns =>
      obtain ⟨hin, hln⟩ := okT_in hoky
      have hL : toldL (.text ns :: rs) = ndS (.text ns) :: toldL rs := rfl
      rw [hL] at hwa
      obtain ⟨g1, ⟨g2, g3⟩, g4⟩ := window_cons hwa hq
      have g5 := g4 1 (by simp)
      have hix := fun σ => idxAV_encNs (σ := σ) (l := l) g2
      rw [g3] at hix
      have hlt : ((a : Int) < (q : Int)) = True := eq_true (by omega)
      have k1 : (ndS (.text ns)).kind = 2 := rfl
      have k2 : (ndS (.text ns)).size = 1 := rfl
      have kx : ns = (ndS (.text ns)).line :: (ndS (.text ns)).space :: (ndS (.text ns)).words := by
        match ns, hln with
        | u :: v :: w, _ => rfl
      have kc : 14 * (ndS (.text ns)).words.length ≤ costs (toldS (.text ns)) := by simp only [toldS,costs,costN]; omega
      have r1 : inR .i64 ((a : Int) + 1) := inR_i64 (by omega) (by omega)
      generalize ndS (.text ns) = x at *
      rw [kx] at hin
      have i1 := hin x.line (by simp)
      have i2 := hin x.space (by simp)
      have i3 : ∀ n ∈ x.words, inN n := fun n hn => hin n (by simp [hn])
      have d1 := (dg_len i1).1
      have d2 := (dg_len i2).1
      (refine Runs.of_step Orc.nothing 300 ?_; simp -implicitDefEqProofs only [BB,seval,← decide_not,okind,vpre,vpure,intBin,intPre,strBin,strPre,popTo,argSlots,fldV,fldAV,subCells,idxVV,idxAAV,idxSV,sliceV,sliceSV,boundV,szIs,storeOp,storeS,setRowV,eff,extV,buildV,splice,eqSV,fitsL,eqCells,eqCell,minmaxV,capV,binBV,nilCheckV,bytesV,V.cells,V.stays,Orc.nothing,h0,h1,h2,h3,h9,hlt,hix,loadV_rp_node,encN,Nd.cells,encI_staysA])
      refine effR_new fun id6 σ6 s6 r6 f6 => ?_
      simp -implicitDefEqProofs only [BB,seval,← decide_not,okind,vpre,vpure,intBin,intPre,strBin,strPre,popTo,argSlots,fldV,fldAV,subCells,idxVV,idxAAV,idxSV,sliceV,sliceSV,boundV,szIs,storeOp,storeS,setRowV,eff,extV,buildV,splice,eqSV,fitsL,eqCells,eqCell,minmaxV,capV,binBV,nilCheckV,bytesV,V.cells,V.stays,r6,h0,h1,h2,h3,h9,k1,encI_staysA]
      refine ⟨by omega, ?_⟩
      refine Go.pcallG rfl rfl rfl (rdg_c x.line i1) ?_
      (refine Go.of_step Orc.nothing 300 _ _ ?_; simp -implicitDefEqProofs only [BB,seval,← decide_not,okind,vpre,vpure,intBin,intPre,strBin,strPre,popTo,argSlots,fldV,fldAV,subCells,idxVV,idxAAV,idxSV,sliceV,sliceSV,boundV,szIs,storeOp,storeS,setRowV,eff,extV,buildV,splice,eqSV,fitsL,eqCells,eqCell,minmaxV,capV,binBV,nilCheckV,bytesV,V.cells,V.stays,Orc.nothing,r6,h0,h1,h2,h3,h9,k1,encI_staysA])
      refine ⟨by simp only [List.length_append,List.length_cons,List.length_nil]; omega, by simp only [List.length_append,List.length_cons,List.length_nil]; omega, ?_⟩
      refine Go.pcallG rfl rfl rfl (rdg_c x.space i2) ?_
      (refine Go.of_step Orc.nothing 300 _ _ ?_; simp -implicitDefEqProofs only [BB,seval,← decide_not,okind,vpre,vpure,intBin,intPre,strBin,strPre,popTo,argSlots,fldV,fldAV,subCells,idxVV,idxAAV,idxSV,sliceV,sliceSV,boundV,szIs,storeOp,storeS,setRowV,eff,extV,buildV,splice,eqSV,fitsL,eqCells,eqCell,minmaxV,capV,binBV,nilCheckV,bytesV,V.cells,V.stays,Orc.nothing,r6,h0,h1,h2,h3,h9,k1,encI_staysA])
      refine ⟨by simp only [List.length_append,List.length_cons,List.length_nil]; omega, ?_⟩
      refine Runs.loop (fun z st => ∃ i : Nat, i ≤ x.words.length ∧ z = x.words.length - i ∧ SubStore σ st.σ ∧ st.σ id6 = some ⟨37, 20, [.agg (textCells x)]⟩ ∧ st.s 0 = encNs l ∧ st.s 1 = vI a ∧ st.s 2 = vI q ∧ st.s 3 = .str e ∧ st.s 10 = .ptr id6 0 0 ∧ st.s 9 = .str (D ++ [40] ++ dg x.line ++ [32] ++ dg x.space ++ wordsX (x.words.take i)) ∧ st.s 11 = vI i) x.words.length ?_ ?_
      · exact ⟨0, by omega, by omega, hsub.trans (s6.updK f6), upd_same, h0, h1, h2, h3, rfl, congrArg V.str (by simp [wordsX]), rfl⟩
      rintro z ⟨S2, σ2⟩ ⟨i, hi, rfl, hsub2, r2, h0, h1, h2, h3, h10, h9, h11⟩
      simp only at h0 h1 h2 h3 h9 h10 h11 hsub2 r2
      refine Runs.mix 12 ?_
      have hwl := wordsX_len (ws := x.words.take i) (fun n hn => i3 n (List.mem_of_mem_take hn))
      have htl : (x.words.take i).length ≤ x.words.length := by rw [List.length_take]; omega
      by_cases hwi : i < x.words.length
      · have hlt2 : ((i : Int) < (x.words.length : Int)) = True := eq_true (by omega)
        have hixw := fun σ => idxAV_encI (σ := σ) hwi
        have i4 := i3 _ (List.getElem_mem hwi)
        have d3 := (dg_len i4).1
        have htk := wordsX_take x.words i hwi
        have r3 : inR .i64 ((i : Int) + 1) := inR_i64 (by omega) (by omega)
        generalize x.words[i] = v at *
        (refine Runs.of_step Orc.nothing 300 ?_; simp -implicitDefEqProofs only [BB,seval,← decide_not,okind,vpre,vpure,intBin,intPre,strBin,strPre,popTo,argSlots,fldV,fldAV,subCells,idxVV,idxAAV,idxSV,sliceV,sliceSV,boundV,szIs,storeOp,storeS,setRowV,eff,extV,buildV,splice,eqSV,fitsL,eqCells,eqCell,minmaxV,capV,binBV,nilCheckV,bytesV,V.cells,V.stays,Orc.nothing,h0,h1,h2,h3,h9,h10,h11,r2,textCells,encI_staysA,lenV_encI,hlt2,hixw])
        refine ⟨by simp only [List.length_append,List.length_cons,List.length_nil]; omega, ?_⟩
        refine Runs.pcall rfl rfl rfl (rdg_c v i4 _) ?_
        (refine Runs.of_step Orc.nothing 300 ?_; simp -implicitDefEqProofs only [BB,seval,← decide_not,okind,vpre,vpure,intBin,intPre,strBin,strPre,popTo,argSlots,fldV,fldAV,subCells,idxVV,idxAAV,idxSV,sliceV,sliceSV,boundV,szIs,storeOp,storeS,setRowV,eff,extV,buildV,splice,eqSV,fitsL,eqCells,eqCell,minmaxV,capV,binBV,nilCheckV,bytesV,V.cells,V.stays,Orc.nothing,h0,h1,h2,h3,h9,h10,h11,r3])
        refine ⟨by simp only [List.length_append,List.length_cons,List.length_nil]; omega, _, by omega, i + 1, by omega, rfl, hsub2, r2, congrArg V.str ?_, by simp⟩
        rw [htk]; simp
      · have hie : i = x.words.length := by omega
        subst hie
        have hlt2 : ((x.words.length : Int) < (x.words.length : Int)) = False := by simp
        (refine Runs.of_step Orc.nothing 300 ?_; simp -implicitDefEqProofs only [BB,seval,← decide_not,okind,vpre,vpure,intBin,intPre,strBin,strPre,popTo,argSlots,fldV,fldAV,subCells,idxVV,idxAAV,idxSV,sliceV,sliceSV,boundV,szIs,storeOp,storeS,setRowV,eff,extV,buildV,splice,eqSV,fitsL,eqCells,eqCell,minmaxV,capV,binBV,nilCheckV,bytesV,V.cells,V.stays,Orc.nothing,h0,h1,h2,h3,h9,h10,h11,r2,textCells,encI_staysA,lenV_encI,hlt2,k2,r1])
        refine ⟨by simp only [List.length_append,List.length_cons,List.length_nil]; omega, by simp only [List.length_append,List.length_cons,List.length_nil]; omega, _, Nat.lt_succ_self _, dn ++ [.text ns], rs, a + 1, hnext, rfl, by simpa using g5, by omega, hsub2, by simp, ?_⟩
        rw [htxt, txtS, kx, joinX, joinX_flat, List.take_length]; simp
    | block s inner =>
      have hL : toldL (.block s inner :: rs) = { ndS (.block s inner) with size := 1 + ((toldL inner).length : Int) } :: (toldL inner ++ toldL rs) := by rw [toldL, toldS]; rfl
      have hat := attX_len (okL_in hoky.1.2) 12 0
      have hcin : 400 + costs (toldL inner) ≤ costs (toldS (.block s inner)) := by simp [toldS, costs, costN]
      have hmi : (toldL inner).length < m := by rw [toldL_append, toldL, List.length_append, List.length_append, toldS, List.length_cons] at hm; omega
      have htin := txtL_len inner hoky.2 [] (by simp)
      rw [hL] at hwa
      obtain ⟨g1, ⟨g2, g3⟩, g4⟩ := window_cons hwa hq
      have g5 := g4 (1 + (toldL inner).length) (by simp; omega)
      have hlw : ((l.drop a).take (q - a)).length = ((toldL inner ++ toldL rs).length + 1) := by rw [hwa]; simp
      simp only [List.length_take,List.length_drop,List.length_append] at hlw
      have g6 : (l.drop (a + 1)).take (a + (1 + (toldL inner).length) - (a + 1)) = toldL inner := by
        have := congrArg (List.take (toldL inner).length) (g4 1 (by simp))
        rw [List.take_take] at this
        rw [show a + (1 + (toldL inner).length) - (a + 1) = min (toldL inner).length (q - (a + 1)) by omega, this]
        simp
      have hix := fun σ => idxAV_encNs (σ := σ) (l := l) g2
      rw [g3] at hix
      have hlt : ((a : Int) < (q : Int)) = True := eq_true (by omega)
      have t4 : styL s = ({ ndS (.block s inner) with size := 1 + ((toldL inner).length : Int) } : Nd).st := rfl
      have k2 : ({ ndS (.block s inner) with size := 1 + ((toldL inner).length : Int) } : Nd).size = ((1 + (toldL inner).length : Nat) : Int) := by simp
      have k1 : ({ ndS (.block s inner) with size := 1 + ((toldL inner).length : Int) } : Nd).kind = 1 := rfl
      have hsty := rstyle_c s hoky.1.1 (okL_in hoky.1.2)
      rw [styL_cells hoky.1.1, t4] at hsty
      have hrec := ih inner hmi hoky.2 [] l (a + 1) (a + (1 + (toldL inner).length)) (by simp) (by omega) hbig (by omega) g6 (by omega)
      simp only [show ((a + 1 : Nat) : Int) = (a : Int) + 1 by omega] at hrec
      clear t4
      generalize ({ ndS (.block s inner) with size := 1 + ((toldL inner).length : Int) } : Nd) = x at *
      have e1 : ((a : Int) + ((1 + (toldL inner).length : Nat) : Int)) = ((a + (1 + (toldL inner).length) : Nat) : Int) := by omega
      have r1 : inR .i64 ((a + (1 + (toldL inner).length) : Nat) : Int) := inR_i64 (by omega) (by omega)
      have r2 : inR .i64 ((a : Int) + 1) := inR_i64 (by omega) (by omega)
      (refine Runs.of_step Orc.nothing 300 ?_; simp -implicitDefEqProofs only [BB,seval,← decide_not,okind,vpre,vpure,intBin,intPre,strBin,strPre,popTo,argSlots,fldV,fldAV,subCells,idxVV,idxAAV,idxSV,sliceV,sliceSV,boundV,szIs,storeOp,storeS,setRowV,eff,extV,buildV,splice,eqSV,fitsL,eqCells,eqCell,minmaxV,capV,binBV,nilCheckV,bytesV,V.cells,V.stays,Orc.nothing,h0,h1,h2,h3,h9,hlt,hix,loadV_rp_node,encN,Nd.cells,encI_staysA])
      refine effR_new fun id6 σ6 s6 r6 f6 => ?_
      simp -implicitDefEqProofs only [BB,seval,← decide_not,okind,vpre,vpure,intBin,intPre,strBin,strPre,popTo,argSlots,fldV,fldAV,subCells,idxVV,idxAAV,idxSV,sliceV,sliceSV,boundV,szIs,storeOp,storeS,setRowV,eff,extV,buildV,splice,eqSV,fitsL,eqCells,eqCell,minmaxV,capV,binBV,nilCheckV,bytesV,V.cells,V.stays,r6,h0,h1,h2,h3,h9,k1,encI_staysA]
      refine ⟨by omega, ?_⟩
      refine Go.pcallG rfl rfl rfl hsty ?_
      (refine Go.of_step Orc.nothing 300 _ _ ?_; simp -implicitDefEqProofs only [BB,seval,← decide_not,okind,vpre,vpure,intBin,intPre,strBin,strPre,popTo,argSlots,fldV,fldAV,subCells,idxVV,idxAAV,idxSV,sliceV,sliceSV,boundV,szIs,storeOp,storeS,setRowV,eff,extV,buildV,splice,eqSV,fitsL,eqCells,eqCell,minmaxV,capV,binBV,nilCheckV,bytesV,V.cells,V.stays,Orc.nothing,r6,h0,h1,h2,h3,h9,k1,k2,e1,r1,r2,encI_staysA])
      refine ⟨by simp only [List.length_append,List.length_cons,List.length_nil]; omega, ?_⟩
      refine Go.pcallG rfl rfl rfl hrec ?_
      (refine Go.of_step Orc.nothing 300 _ _ ?_; simp -implicitDefEqProofs only [BB,seval,← decide_not,okind,vpre,vpure,intBin,intPre,strBin,strPre,popTo,argSlots,fldV,fldAV,subCells,idxVV,idxAAV,idxSV,sliceV,sliceSV,boundV,szIs,storeOp,storeS,setRowV,eff,extV,buildV,splice,eqSV,fitsL,eqCells,eqCell,minmaxV,capV,binBV,nilCheckV,bytesV,V.cells,V.stays,Orc.nothing,r6,h0,h1,h2,h3,h9,k1,k2,e1,r1,r2,encI_staysA])
      refine ⟨by simp only [List.length_append,List.length_cons,List.length_nil]; omega, by simp only [List.length_append,List.length_cons,List.length_nil]; omega, by simp only [List.length_append,List.length_cons,List.length_nil]; omega, _, Nat.lt_succ_self _, dn ++ [.block s inner], rs, a + (1 + (toldL inner).length), hnext, rfl, ?_, by omega, hsub.trans (s6.updK f6), by simp, ?_⟩
      · rw [g5, Nat.add_comm]; simp
      · rw [htxt, txtS]; simp
end Go.Vc
namespace Go.Vc
open Go.Proofs
theorem costs_le {n w : Nat} : ∀ (l : List Nd), (∀ x ∈ l, x.words.length ≤ w) → costs l ≤ l.length * (400 + 14 * w)
  | [], _ => by simp [costs]
  | x :: l, h => by
    have h1 := costs_le (n := n) l (fun y hy => h y (by simp [hy]))
    have h2 := h x (by simp)
    have h3 : (l.length + 1) * (400 + 14 * w) = l.length * (400 + 14 * w) + (400 + 14 * w) := by rw [Nat.add_mul, Nat.one_mul]
    simp only [costs,costN,List.length_cons]
    rw [h3]; omega
theorem smallB {l : List Nd} (h : vastB l = false) : Fine l ∧ costs l ≤ 360000 := by
  obtain ⟨h1, h2⟩ := vastB_fine h
  have h3 := costs_le (n := 0) l h2
  have h4 : l.length * (400 + 14 * 100) ≤ 200 * (400 + 14 * 100) := Nat.mul_le_mul_right _ h1
  exact ⟨⟨by omega, fun x hx => by have := h2 x hx; omega⟩, by omega⟩
end Go.Vc
namespace Go.Vc
open Go.Proofs
theorem rwriteBad_c (l : List Nd) (hl : Fine l) (hB : isB l = false) : PFun Tryd.prog 29 [encNs l] (.tup [.str [], vI 4]) := fun σ => by
  refine Contract.of_runs Tryd.func29 e29 k29 (by simp [c29]) ?_
  refine Runs.mix 4 ?_
  (refine Runs.of_step Orc.nothing 300 ?_; simp -implicitDefEqProofs only [BB,seval,← decide_not,okind,vpre,vpure,intBin,intPre,strBin,strPre,popTo,argSlots,fldV,fldAV,subCells,idxVV,idxAAV,idxSV,sliceV,sliceSV,boundV,szIs,storeOp,storeS,setRowV,eff,extV,buildV,splice,eqSV,fitsL,eqCells,eqCell,minmaxV,capV,binBV,nilCheckV,bytesV,V.cells,V.stays,Orc.nothing,c29])
  refine Runs.pcall rfl rfl rfl (is_c l hl _) ?_
  (refine Runs.of_step Orc.nothing 300 ?_; simp -implicitDefEqProofs only [BB,seval,← decide_not,okind,vpre,vpure,intBin,intPre,strBin,strPre,popTo,argSlots,fldV,fldAV,subCells,idxVV,idxAAV,idxSV,sliceV,sliceSV,boundV,szIs,storeOp,storeS,setRowV,eff,extV,buildV,splice,eqSV,fitsL,eqCells,eqCell,minmaxV,capV,binBV,nilCheckV,bytesV,V.cells,V.stays,Orc.nothing,hB])
  exact RetV.same rfl
theorem rwrite_c (xs : List Shp) (hok : okSs xs) (hF : Fine (toldL xs)) (hcs : costs (toldL xs) ≤ 800000000) : PFun Tryd.prog 29 [encNs (toldL xs)] (.tup [.str (txtL [10] xs), vI 0]) := fun σ => by
  have hB : isB (toldL xs) = true := okSs_isB hok
  have hlen := hF.1
  refine Contract.of_runs Tryd.func29 e29 k29 (by simp [c29]) ?_
  refine Runs.mix 4 ?_
  (refine Runs.of_step Orc.nothing 300 ?_; simp -implicitDefEqProofs only [BB,seval,← decide_not,okind,vpre,vpure,intBin,intPre,strBin,strPre,popTo,argSlots,fldV,fldAV,subCells,idxVV,idxAAV,idxSV,sliceV,sliceSV,boundV,szIs,storeOp,storeS,setRowV,eff,extV,buildV,splice,eqSV,fitsL,eqCells,eqCell,minmaxV,capV,binBV,nilCheckV,bytesV,V.cells,V.stays,Orc.nothing,c29])
  refine Runs.pcall rfl rfl rfl (is_c _ hF _) ?_
  (refine Runs.of_step Orc.nothing 300 ?_; simp -implicitDefEqProofs only [BB,seval,← decide_not,okind,vpre,vpure,intBin,intPre,strBin,strPre,popTo,argSlots,fldV,fldAV,subCells,idxVV,idxAAV,idxSV,sliceV,sliceSV,boundV,szIs,storeOp,storeS,setRowV,eff,extV,buildV,splice,eqSV,fitsL,eqCells,eqCell,minmaxV,capV,binBV,nilCheckV,bytesV,V.cells,V.stays,Orc.nothing,hB,lenV_encNs])
  refine Runs.pcall rfl rfl rfl (rtext_c _ xs (Nat.lt_succ_self _) hok [10] (toldL xs) 0 (toldL xs).length (by simp) hcs (by omega) (Nat.le_refl _) (by simp) (by omega) _) ?_
  (refine Runs.of_step Orc.nothing 300 ?_; simp -implicitDefEqProofs only [BB,seval,← decide_not,okind,vpre,vpure,intBin,intPre,strBin,strPre,popTo,argSlots,fldV,fldAV,subCells,idxVV,idxAAV,idxSV,sliceV,sliceSV,boundV,szIs,storeOp,storeS,setRowV,eff,extV,buildV,splice,eqSV,fitsL,eqCells,eqCell,minmaxV,capV,binBV,nilCheckV,bytesV,V.cells,V.stays,Orc.nothing])
  exact RetV.same rfl
set_option maxRecDepth 100000 in
theorem canonWrites_c (l : List Nd) : PFun Tryd.prog 8 [encNs l] (.bool true) := fun σ => by
  refine Contract.of_runs Tryd.func8 e8 k8 (by simp [c8]) ?_
  refine Runs.mix 8 ?_
  (refine Runs.of_step Orc.nothing 300 ?_; simp -implicitDefEqProofs only [BB,seval,← decide_not,okind,vpre,vpure,intBin,intPre,strBin,strPre,popTo,argSlots,fldV,fldAV,subCells,idxVV,idxAAV,idxSV,sliceV,sliceSV,boundV,szIs,storeOp,storeS,setRowV,eff,extV,buildV,splice,eqSV,fitsL,eqCells,eqCell,minmaxV,capV,binBV,nilCheckV,bytesV,V.cells,V.stays,Orc.nothing,c8])
  refine Runs.pcall rfl rfl rfl (vast7_c l _) ?_
  cases hva : vastB l with
  | true =>
    (refine Runs.of_step Orc.nothing 300 ?_; simp -implicitDefEqProofs only [BB,seval,← decide_not,okind,vpre,vpure,intBin,intPre,strBin,strPre,popTo,argSlots,fldV,fldAV,subCells,idxVV,idxAAV,idxSV,sliceV,sliceSV,boundV,szIs,storeOp,storeS,setRowV,eff,extV,buildV,splice,eqSV,fitsL,eqCells,eqCell,minmaxV,capV,binBV,nilCheckV,bytesV,V.cells,V.stays,Orc.nothing])
    refine Runs.pcall rfl rfl rfl (awake7_c _) ?_
    (refine Runs.of_step Orc.nothing 300 ?_; simp -implicitDefEqProofs only [BB,seval,← decide_not,okind,vpre,vpure,intBin,intPre,strBin,strPre,popTo,argSlots,fldV,fldAV,subCells,idxVV,idxAAV,idxSV,sliceV,sliceSV,boundV,szIs,storeOp,storeS,setRowV,eff,extV,buildV,splice,eqSV,fitsL,eqCells,eqCell,minmaxV,capV,binBV,nilCheckV,bytesV,V.cells,V.stays,Orc.nothing])
    exact RetV.same rfl
  | false =>
    obtain ⟨fl, cl⟩ := smallB hva
    obtain ⟨v1, v2⟩ := vastB_fine hva
    (refine Runs.of_step Orc.nothing 300 ?_; simp -implicitDefEqProofs only [BB,seval,← decide_not,okind,vpre,vpure,intBin,intPre,strBin,strPre,popTo,argSlots,fldV,fldAV,subCells,idxVV,idxAAV,idxSV,sliceV,sliceSV,boundV,szIs,storeOp,storeS,setRowV,eff,extV,buildV,splice,eqSV,fitsL,eqCells,eqCell,minmaxV,capV,binBV,nilCheckV,bytesV,V.cells,V.stays,Orc.nothing])
    refine Runs.pcall rfl rfl rfl (own_c l ⟨by omega, fun x hx => by have := v2 x hx; omega⟩ _) ?_
    (refine Runs.of_step Orc.nothing 300 ?_; simp -implicitDefEqProofs only [BB,seval,← decide_not,okind,vpre,vpure,intBin,intPre,strBin,strPre,popTo,argSlots,fldV,fldAV,subCells,idxVV,idxAAV,idxSV,sliceV,sliceSV,boundV,szIs,storeOp,storeS,setRowV,eff,extV,buildV,splice,eqSV,fitsL,eqCells,eqCell,minmaxV,capV,binBV,nilCheckV,bytesV,V.cells,V.stays,Orc.nothing])
    cases hB : isB l with
    | false =>
      refine Runs.pcall rfl rfl rfl (writeBad_c l fl hB _) ?_
      (refine Runs.of_step Orc.nothing 300 ?_; simp -implicitDefEqProofs only [BB,seval,← decide_not,okind,vpre,vpure,intBin,intPre,strBin,strPre,popTo,argSlots,fldV,fldAV,subCells,idxVV,idxAAV,idxSV,sliceV,sliceSV,boundV,szIs,storeOp,storeS,setRowV,eff,extV,buildV,splice,eqSV,fitsL,eqCells,eqCell,minmaxV,capV,binBV,nilCheckV,bytesV,V.cells,V.stays,Orc.nothing])
      refine Runs.pcall rfl rfl rfl (rwriteBad_c l fl hB _) ?_
      (refine Runs.of_step Orc.nothing 300 ?_; simp -implicitDefEqProofs only [BB,seval,← decide_not,okind,vpre,vpure,intBin,intPre,strBin,strPre,popTo,argSlots,fldV,fldAV,subCells,idxVV,idxAAV,idxSV,sliceV,sliceSV,boundV,szIs,storeOp,storeS,setRowV,eff,extV,buildV,splice,eqSV,fitsL,eqCells,eqCell,minmaxV,capV,binBV,nilCheckV,bytesV,V.cells,V.stays,Orc.nothing])
      refine Runs.pcall rfl rfl rfl (same5_c l l fl fl _) ?_
      rw [decide_eq_true rfl]
      (refine Runs.of_step Orc.nothing 300 ?_; simp -implicitDefEqProofs only [BB,seval,← decide_not,okind,vpre,vpure,intBin,intPre,strBin,strPre,popTo,argSlots,fldV,fldAV,subCells,idxVV,idxAAV,idxSV,sliceV,sliceSV,boundV,szIs,storeOp,storeS,setRowV,eff,extV,buildV,splice,eqSV,fitsL,eqCells,eqCell,minmaxV,capV,binBV,nilCheckV,bytesV,V.cells,V.stays,Orc.nothing])
      refine Runs.pcall rfl rfl rfl (awake7_c _) ?_
      (refine Runs.of_step Orc.nothing 300 ?_; simp -implicitDefEqProofs only [BB,seval,← decide_not,okind,vpre,vpure,intBin,intPre,strBin,strPre,popTo,argSlots,fldV,fldAV,subCells,idxVV,idxAAV,idxSV,sliceV,sliceSV,boundV,szIs,storeOp,storeS,setRowV,eff,extV,buildV,splice,eqSV,fitsL,eqCells,eqCell,minmaxV,capV,binBV,nilCheckV,bytesV,V.cells,V.stays,Orc.nothing])
      exact RetV.same rfl
    | true =>
      obtain ⟨xs, rfl, hok⟩ := shapes_of hB
      refine Runs.pcall rfl rfl rfl (write_c xs hok fl (by omega) _) ?_
      (refine Runs.of_step Orc.nothing 300 ?_; simp -implicitDefEqProofs only [BB,seval,← decide_not,okind,vpre,vpure,intBin,intPre,strBin,strPre,popTo,argSlots,fldV,fldAV,subCells,idxVV,idxAAV,idxSV,sliceV,sliceSV,boundV,szIs,storeOp,storeS,setRowV,eff,extV,buildV,splice,eqSV,fitsL,eqCells,eqCell,minmaxV,capV,binBV,nilCheckV,bytesV,V.cells,V.stays,Orc.nothing])
      refine Runs.pcall rfl rfl rfl (rwrite_c xs hok fl (by omega) _) ?_
      (refine Runs.of_step Orc.nothing 300 ?_; simp -implicitDefEqProofs only [BB,seval,← decide_not,okind,vpre,vpure,intBin,intPre,strBin,strPre,popTo,argSlots,fldV,fldAV,subCells,idxVV,idxAAV,idxSV,sliceV,sliceSV,boundV,szIs,storeOp,storeS,setRowV,eff,extV,buildV,splice,eqSV,fitsL,eqCells,eqCell,minmaxV,capV,binBV,nilCheckV,bytesV,V.cells,V.stays,Orc.nothing])
      refine Runs.pcall rfl rfl rfl (same5_c _ _ fl fl _) ?_
      rw [decide_eq_true rfl]
      (refine Runs.of_step Orc.nothing 300 ?_; simp -implicitDefEqProofs only [BB,seval,← decide_not,okind,vpre,vpure,intBin,intPre,strBin,strPre,popTo,argSlots,fldV,fldAV,subCells,idxVV,idxAAV,idxSV,sliceV,sliceSV,boundV,szIs,storeOp,storeS,setRowV,eff,extV,buildV,splice,eqSV,fitsL,eqCells,eqCell,minmaxV,capV,binBV,nilCheckV,bytesV,V.cells,V.stays,Orc.nothing])
      refine Runs.pcall rfl rfl rfl (awake7_c _) ?_
      (refine Runs.of_step Orc.nothing 300 ?_; simp -implicitDefEqProofs only [BB,seval,← decide_not,okind,vpre,vpure,intBin,intPre,strBin,strPre,popTo,argSlots,fldV,fldAV,subCells,idxVV,idxAAV,idxSV,sliceV,sliceSV,boundV,szIs,storeOp,storeS,setRowV,eff,extV,buildV,splice,eqSV,fitsL,eqCells,eqCell,minmaxV,capV,binBV,nilCheckV,bytesV,V.cells,V.stays,Orc.nothing])
      exact RetV.same rfl
end Go.Vc
