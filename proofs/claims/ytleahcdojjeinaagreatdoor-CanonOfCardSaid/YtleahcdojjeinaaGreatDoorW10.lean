/- Part 10 of the library of this proof. -/
import Derived.Test.YtleahcdojjeinaaGreatDoorW9
import Derived.Lib.ItoaNum
set_option linter.all false
namespace Go.Vc
open Go.Proofs
def styL : List Int → Sty
  | [a, b, c, d, e, f, g, h, i, j, k, l] => ⟨a, b, c, d, e, f, g, h, i, j, k, l⟩
  | _ => Sty.zero
theorem styL_cells {s : List Int} (h : s.length = 12) : s.map vI = (styL s).cells := by
  match s, h with
  | [a, b, c, d, e, f, g, h, i, j, k, l], _ => rfl
def ndS : Shp → Nd
  | .box w h => ⟨3, 1, Sty.zero, 0, 0, [], 0, w, h⟩
  | .block s _ => ⟨1, 1, styL s, 0, 0, [], 0, 0, 0⟩
  | .text ns => ⟨2, 1, Sty.zero, ns.getD 0 0, ns.getD 1 0, ns.drop 2, 0, 0, 0⟩
  | .float w h d => ⟨4, 1, Sty.zero, 0, 0, [], d, w, h⟩
theorem wk_nd {σ σ' : Store} (h : SubStore σ' σ) (k z a b c d w v : Int) (s : Sty) : Wk σ σ' (.agg [vI k, vI z, vI s.top, vI s.bottom, vI s.padTop, vI s.padBottom, vI s.inset, vI s.orphans, vI s.widows, vI s.head, vI s.before, vI s.after, vI s.inside, vI s.clear, vI a, vI b, .nils, vI d, vI w, vI v])
    (encN ⟨k, z, s, a, b, [], d, w, v⟩) := by
  simp only [encN,Nd.cells]
  refine Wk.agg ?_
  simp only [WkL]
  exact ⟨Wk.refl h _, Wk.refl h _, Wk.refl h _, Wk.refl h _, Wk.refl h _, Wk.refl h _, Wk.refl h _, Wk.refl h _, Wk.refl h _, Wk.refl h _, Wk.refl h _, Wk.refl h _, Wk.refl h _, Wk.refl h _, Wk.refl h _, Wk.refl h _, Wk.nils 1, Wk.refl h _, Wk.refl h _, Wk.refl h _, trivial⟩
theorem retN {σ σ1 σ2 : Store} {id2 : Nat} {o : Ob} {v v' : V} (s1 : SubStore σ σ1) (s2 : SubStore σ1 σ2) (f2 : σ1 id2 = none) (h : ∀ τ, SubStore σ τ → Wk τ σ v v') : RetV v (upd σ2 id2 o) fun r σ' => r = v' ∧ σ' = σ :=
  have hs : SubStore σ (upd σ2 id2 o) := (s1.trans s2).updK (s1.none f2)
  ⟨_, σ, hs, h _ hs, rfl, rfl⟩
theorem mbox_c (w h : Int) : PFun Tryz.prog 120 [.agg [vI w, vI h]] (encN (ndS (.box w h))) := fun σ => by
  refine Contract.of_runs Tryz.func120 e120 k120 (by simp [c120]) ?_
  (refine Runs.of_step Orc.nothing 300 ?_; simp -implicitDefEqProofs only [BB,seval,← decide_not,okind,vpre,vpure,intBin,intPre,strBin,strPre,popTo,argSlots,fldV,fldAV,subCells,idxVV,idxAAV,idxSV,sliceV,sliceSV,boundV,szIs,storeOp,storeS,setRowV,eff,extV,buildV,splice,eqSV,fitsL,eqCells,eqCell,minmaxV,capV,binBV,nilCheckV,bytesV,V.cells,V.stays,Orc.nothing,c120])
  refine effR_new fun id1 σ1 s1 a1 f1 => ?_
  simp -implicitDefEqProofs only [BB,seval,← decide_not,okind,vpre,vpure,intBin,intPre,strBin,strPre,popTo,argSlots,fldV,fldAV,subCells,idxVV,idxAAV,idxSV,sliceV,sliceSV,boundV,szIs,storeOp,storeS,setRowV,eff,extV,buildV,splice,eqSV,fitsL,eqCells,eqCell,minmaxV,capV,binBV,nilCheckV,bytesV,V.cells,V.stays]
  refine effR_new fun id2 σ2 s2 a2 f2 => ?_
  have b1 := s2 _ _ a1
  simp -implicitDefEqProofs only [BB,seval,← decide_not,okind,vpre,vpure,intBin,intPre,strBin,strPre,popTo,argSlots,fldV,fldAV,subCells,idxVV,idxAAV,idxSV,sliceV,sliceSV,boundV,szIs,storeOp,storeS,setRowV,eff,extV,buildV,splice,eqSV,fitsL,eqCells,eqCell,minmaxV,capV,binBV,nilCheckV,bytesV,V.cells,V.stays,b1,a2]
  exact retN s1 s2 f2 fun τ hs => wk_nd hs 3 1 0 0 0 0 w h Sty.zero
theorem mfloat_c (w h d : Int) : PFun Tryz.prog 123 [.agg [vI w, vI h, vI d]] (encN (ndS (.float w h d))) := fun σ => by
  refine Contract.of_runs Tryz.func123 e123 k123 (by simp [c123]) ?_
  (refine Runs.of_step Orc.nothing 300 ?_; simp -implicitDefEqProofs only [BB,seval,← decide_not,okind,vpre,vpure,intBin,intPre,strBin,strPre,popTo,argSlots,fldV,fldAV,subCells,idxVV,idxAAV,idxSV,sliceV,sliceSV,boundV,szIs,storeOp,storeS,setRowV,eff,extV,buildV,splice,eqSV,fitsL,eqCells,eqCell,minmaxV,capV,binBV,nilCheckV,bytesV,V.cells,V.stays,Orc.nothing,c123])
  refine effR_new fun id1 σ1 s1 a1 f1 => ?_
  simp -implicitDefEqProofs only [BB,seval,← decide_not,okind,vpre,vpure,intBin,intPre,strBin,strPre,popTo,argSlots,fldV,fldAV,subCells,idxVV,idxAAV,idxSV,sliceV,sliceSV,boundV,szIs,storeOp,storeS,setRowV,eff,extV,buildV,splice,eqSV,fitsL,eqCells,eqCell,minmaxV,capV,binBV,nilCheckV,bytesV,V.cells,V.stays]
  refine effR_new fun id2 σ2 s2 a2 f2 => ?_
  have b1 := s2 _ _ a1
  simp -implicitDefEqProofs only [BB,seval,← decide_not,okind,vpre,vpure,intBin,intPre,strBin,strPre,popTo,argSlots,fldV,fldAV,subCells,idxVV,idxAAV,idxSV,sliceV,sliceSV,boundV,szIs,storeOp,storeS,setRowV,eff,extV,buildV,splice,eqSV,fitsL,eqCells,eqCell,minmaxV,capV,binBV,nilCheckV,bytesV,V.cells,V.stays,b1,a2]
  exact retN s1 s2 f2 fun τ hs => wk_nd hs 4 1 0 0 0 d w h Sty.zero
theorem mblock_c (s : List Int) (hs : s.length = 12) (x : V) (hx : x.cells.length = 1) (hxs : x.stays = true) : PFun Tryz.prog 121 [.agg (s.map vI ++ [x])] (encN (ndS (.block s []))) := fun σ => by
  refine Contract.of_runs Tryz.func121 e121 k121 (by simp [c121]) ?_
  match s, hs with
  | [a, b, c, d, e, f, g, h, i, j, k, l], _ =>
    simp only [List.map_cons,List.map_nil,List.cons_append,List.nil_append]
    have hst : (V.agg [vI a, vI b, vI c, vI d, vI e, vI f, vI g, vI h, vI i, vI j, vI k, vI l, x]).stays = true := rfl
    (refine Runs.of_step Orc.nothing 300 ?_; simp -implicitDefEqProofs only [BB,seval,← decide_not,okind,vpre,vpure,intBin,intPre,strBin,strPre,popTo,argSlots,fldV,fldAV,subCells,idxVV,idxAAV,idxSV,sliceV,sliceSV,boundV,szIs,storeOp,storeS,setRowV,eff,extV,buildV,splice,eqSV,fitsL,eqCells,eqCell,minmaxV,capV,binBV,nilCheckV,bytesV,V.cells,V.stays,Orc.nothing,c121,hxs])
    refine effR_new fun id1 σ1 s1 a1 f1 => ?_
    simp -implicitDefEqProofs only [BB,seval,← decide_not,okind,vpre,vpure,intBin,intPre,strBin,strPre,popTo,argSlots,fldV,fldAV,subCells,idxVV,idxAAV,idxSV,sliceV,sliceSV,boundV,szIs,storeOp,storeS,setRowV,eff,extV,buildV,splice,eqSV,fitsL,eqCells,eqCell,minmaxV,capV,binBV,nilCheckV,bytesV,V.cells,V.stays]
    refine effR_new fun id2 σ2 s2 a2 f2 => ?_
    have b1 := s2 _ _ a1
    simp -implicitDefEqProofs only [BB,seval,← decide_not,okind,vpre,vpure,intBin,intPre,strBin,strPre,popTo,argSlots,fldV,fldAV,subCells,idxVV,idxAAV,idxSV,sliceV,sliceSV,boundV,szIs,storeOp,storeS,setRowV,eff,extV,buildV,splice,eqSV,fitsL,eqCells,eqCell,minmaxV,capV,binBV,nilCheckV,bytesV,V.cells,V.stays,b1,a2]
    exact retN s1 s2 f2 fun τ hs => wk_nd hs 1 1 0 0 0 0 0 0 ⟨a, b, c, d, e, f, g, h, i, j, k, l⟩
theorem slice2 (σ : Store) (x y : V) (l : List V) : sliceV σ 1 (.sl 1 (x :: y :: l)) (some (.int .i64 2)) none none = some (.sl 1 l) := by
  simp only [sliceV,boundV,List.length_cons]
  rw [if_pos ⟨by omega, by omega, by omega, by omega, trivial⟩]
  simp
  exact List.take_of_length_le (by omega)
theorem at0 (σ : Store) (x y : V) (l : List V) : idxAV σ 1 (.sl 1 (x :: y :: l)) (.int .i64 0) = some (.rp x) := by simp [idxAV]
theorem at1 (σ : Store) (x y : V) (l : List V) : idxAV σ 1 (.sl 1 (x :: y :: l)) (.int .i64 1) = some (.rp y) := by simp [idxAV]
theorem mtext_c (a b : Int) (r : List Int) : PFun Tryz.prog 122 [.agg [.sl 1 ((a :: b :: r).map vI)]] (encN (ndS (.text (a :: b :: r)))) := fun σ => by
  refine Contract.of_runs Tryz.func122 e122 k122 (by simp [c122]) ?_
  simp only [List.map_cons]
  (refine Runs.of_step Orc.nothing 300 ?_; simp -implicitDefEqProofs only [BB,seval,← decide_not,okind,vpre,vpure,intBin,intPre,strBin,strPre,popTo,argSlots,fldV,fldAV,subCells,idxVV,idxAAV,idxSV,sliceV,sliceSV,boundV,szIs,storeOp,storeS,setRowV,eff,extV,buildV,splice,eqSV,fitsL,eqCells,eqCell,minmaxV,capV,binBV,nilCheckV,bytesV,V.cells,V.stays,Orc.nothing,c122])
  refine effR_new fun id1 σ1 s1 a1 f1 => ?_
  simp -implicitDefEqProofs only [BB,seval,← decide_not,okind,vpre,vpure,intBin,intPre,strBin,strPre,popTo,argSlots,fldV,fldAV,subCells,idxVV,idxAAV,idxSV,sliceV,sliceSV,boundV,szIs,storeOp,storeS,setRowV,eff,extV,buildV,splice,eqSV,fitsL,eqCells,eqCell,minmaxV,capV,binBV,nilCheckV,bytesV,V.cells,V.stays]
  refine effR_new fun id2 σ2 s2 a2 f2 => ?_
  have b1 := s2 _ _ a1
  simp -implicitDefEqProofs only [BB,seval,← decide_not,okind,vpre,vpure,intBin,intPre,strBin,strPre,popTo,argSlots,fldV,fldAV,subCells,idxVV,idxAAV,idxSV,sliceSV,boundV,szIs,storeOp,storeS,setRowV,eff,extV,buildV,splice,eqSV,fitsL,eqCells,eqCell,minmaxV,capV,binBV,nilCheckV,bytesV,V.cells,V.stays,b1,a2,at0,at1,slice2]
  exact retN s1 s2 f2 fun τ hs => Wk.refl hs _
end Go.Vc
namespace Go.Vc
open Go.Proofs
mutual
/-- the nodes of a shape; of shapes -/
def toldS : Shp → List Nd
  | .box w h => [ndS (.box w h)]
  | .block s inner => { ndS (.block s inner) with size := 1 + ((toldL inner).length : Int) } :: toldL inner
  | .text ns => [ndS (.text ns)]
  | .float w h d => [ndS (.float w h d)]
def toldL : List Shp → List Nd
  | [] => []
  | x :: l => toldS x ++ toldL l
/-- twelve numbers in each block, two and more in each text -/
def wfS : Shp → Prop
  | .box _ _ => True
  | .block s inner => s.length = 12 ∧ wfL inner
  | .text ns => 2 ≤ ns.length
  | .float _ _ _ => True
def wfL : List Shp → Prop
  | [] => True
  | x :: l => wfS x ∧ wfL l
end
theorem toldL_append (a b : List Shp) : toldL (a ++ b) = toldL a ++ toldL b := by
  induction a with
  | nil => simp [toldL]
  | cons x l ih => simp [toldL, ih]
theorem wfL_get {l : List Shp} (h : wfL l) {i : Nat} (hi : i < l.length) : wfS l[i] := by
  induction l generalizing i with
  | nil => simp at hi
  | cons x l ih =>
    rw [wfL] at h
    cases i with
    | zero => exact h.1
    | succ i => exact ih h.2 (by simpa using hi)
theorem toldL_take {l : List Shp} {i : Nat} (hi : i < l.length) : toldL (l.take (i + 1)) = toldL (l.take i) ++ toldS l[i] := by
  rw [List.take_succ, toldL_append, List.getElem?_eq_getElem hi]
  simp [toldL]
theorem toldL_mem {l : List Shp} {i : Nat} (hi : i < l.length) : (toldL (l.take i)).length + (toldS l[i]).length ≤ (toldL l).length := by
  have h1 : toldL l = toldL (l.take (i + 1)) ++ toldL (l.drop (i + 1)) := by rw [← toldL_append, List.take_append_drop]
  rw [h1, toldL_take hi]
  simp only [List.length_append]
  omega
theorem toldL_ge (l : List Shp) : l.length ≤ (toldL l).length := by
  induction l with
  | nil => simp
  | cons x l ih =>
    rw [toldL, List.length_append, List.length_cons]
    have : 1 ≤ (toldS x).length := by cases x <;> simp [toldS]
    omega
theorem idx_shp (σ : Store) {l : List Shp} {i : Nat} (hi : i < l.length) : idxAV σ 1 (.sl 1 (l.map encS)) (.int .i64 i) = some (.rp (encS l[i])) := by
  simp [idxAV, hi]
theorem loadV_rp_shp (σ : Store) (sz : Nat) (x : Shp) : loadV σ false sz (.rp (encS x)) = some (encS x) := by cases x <;> simp [encS, loadV]
theorem meth_c (x : Shp) (h : wfS x) : ∃ t v f, encS x = .iface t v ∧ ([(83, 120), (87, 121), (112, 122), (114, 123)] : List (TypeId × FuncId)).lookup t = some f ∧ PFun Tryz.prog f [v] (encN (ndS x)) := by
  cases x with
  | box w v => exact ⟨83, .agg [vI w, vI v], 120, by rw [encS], rfl, mbox_c w v⟩
  | float w v d => exact ⟨114, .agg [vI w, vI v, vI d], 123, by rw [encS], rfl, mfloat_c w v d⟩
  | block s inner =>
    rw [wfS] at h
    exact ⟨_, _, _, by rw [encS], rfl, mblock_c s h.1 (.sl 1 (encSs inner)) rfl rfl⟩
  | text ns =>
    rw [wfS] at h
    match ns, h with
    | a :: b :: r, _ => exact ⟨_, _, _, by rw [encS], rfl, mtext_c a b r⟩
set_option maxRecDepth 100000 in
theorem told_c : ∀ (F : Nat) (xs : List Shp), (toldL xs).length ≤ F → (toldL xs).length ≤ 1000000 → xs.length ≤ 1000000 → wfL xs → PFun Tryz.prog 14 [.sl 1 (xs.map encS)] (encNs (toldL xs)) := by
  intro F
  induction F using Nat.strongRecOn with
  | _ F ih =>
    intro xs hF hl hxl hwf σ
    refine Contract.of_runs Tryz.func14 e14 k14 (by simp [c14]) ?_
    refine Runs.mix 10 ?_
    have hlen : lenV false (.sl 1 (xs.map encS)) = some (.int .i64 (xs.length : Int)) := by simp [lenV]
    (refine Runs.of_step Orc.nothing 300 ?_; simp -implicitDefEqProofs only [BB,seval,effR_some,effD_some,← decide_not,okind,vpre,vpure,intBin,intPre,strBin,strPre,popTo,argSlots,fldV,fldAV,subCells,idxVV,idxAAV,idxSV,sliceV,sliceSV,boundV,szIs,storeOp,storeS,setRowV,eff,extV,buildV,splice,eqSV,fitsL,eqCells,eqCell,minmaxV,capV,binBV,nilCheckV,bytesV,V.cells,V.stays,Orc.nothing,c14,hlen])
    refine Runs.loop (fun m st => ∃ i, i ≤ xs.length ∧ m = xs.length - i ∧ SubStore σ st.σ ∧ OutV σ st.σ 58 20 (st.s 3) ((toldL (xs.take i)).map encN) ∧ st.s 10 = .sl 1 (xs.map encS) ∧ st.s 11 = vI (xs.length : Int) ∧ st.s 12 = vI (i : Int)) xs.length
      ⟨0, by omega, by omega, SubStore.refl σ, OutV.start, rfl, rfl, rfl⟩ ?_
    rintro m ⟨S, σc⟩ ⟨i, hi, rfl, sub, out, p10, p11, p12⟩
    simp only at sub out p10 p11 p12
    refine Runs.mix 10 ?_
    by_cases hlt : i < xs.length
    · have hlt' : ((i : Int) < (xs.length : Int)) = True := by simp [hlt]
      have hix := idx_shp σc hlt
      (refine Runs.of_step Orc.nothing 300 ?_; simp -implicitDefEqProofs only [BB,seval,effR_some,effD_some,← decide_not,okind,vpre,vpure,intBin,intPre,strBin,strPre,popTo,argSlots,fldV,fldAV,subCells,idxVV,idxAAV,idxSV,sliceV,sliceSV,boundV,szIs,storeOp,storeS,setRowV,eff,extV,buildV,splice,eqSV,fitsL,eqCells,eqCell,minmaxV,capV,binBV,nilCheckV,bytesV,V.cells,V.stays,Orc.nothing,p10,p11,p12,hlt',hix,loadV_rp_shp])
      obtain ⟨t, v, f, h1, h2, h3⟩ := meth_c xs[i] (wfL_get hwf hlt)
      refine Runs.inv (t := t) (v := v) rfl rfl (by exact h1) h2 (h3 _) ?_
      rintro r1 σ1 ⟨rfl, rfl⟩
      (refine Runs.of_step Orc.nothing 300 ?_; simp -implicitDefEqProofs only [BB,seval,← decide_not,okind,vpre,vpure,intBin,intPre,strBin,strPre,popTo,argSlots,fldV,fldAV,subCells,idxVV,idxAAV,idxSV,sliceV,sliceSV,boundV,szIs,storeOp,storeS,setRowV,eff,extV,buildV,splice,eqSV,fitsL,eqCells,eqCell,minmaxV,capV,binBV,nilCheckV,bytesV,V.cells,V.stays,Orc.nothing])
      refine effR_new fun id6 σ6 s6 a6 f6 => ?_
      have z6 : σ id6 = none := sub.none f6
      have sub6 : SubStore σ σ6 := sub.trans s6
      have out6 := out.mono s6
      have htas : tasV 87 true (.agg [.int .i64 0, .int .i64 0, .int .i64 0, .int .i64 0, .int .i64 0, .int .i64 0, .int .i64 0, .int .i64 0, .int .i64 0, .int .i64 0, .int .i64 0, .int .i64 0, .nils]) (encS xs[i]) = (match xs[i] with
        | .block s inner => some (.tup [.agg (s.map vI ++ [.sl 1 (encSs inner)]), .bool true])
        | _ => some (.tup [.agg [.int .i64 0, .int .i64 0, .int .i64 0, .int .i64 0, .int .i64 0, .int .i64 0, .int .i64 0, .int .i64 0, .int .i64 0, .int .i64 0, .int .i64 0, .int .i64 0, .nils], .bool false])) := by
        cases xs[i] <;> simp [encS, tasV]
      have hwx := wfL_get hwf hlt
      have htk := toldL_take hlt
      have hmem := toldL_mem hlt
      generalize hx : xs[i] = x at *
      have plain : (∀ s inner, x ≠ .block s inner) → toldS x = [ndS x] ∧ tasV 87 true (.agg [.int .i64 0, .int .i64 0, .int .i64 0, .int .i64 0, .int .i64 0, .int .i64 0, .int .i64 0, .int .i64 0, .int .i64 0, .int .i64 0, .int .i64 0, .int .i64 0, .nils]) (encS x) = some (.tup [.agg [.int .i64 0, .int .i64 0, .int .i64 0, .int .i64 0, .int .i64 0, .int .i64 0, .int .i64 0, .int .i64 0, .int .i64 0, .int .i64 0, .int .i64 0, .int .i64 0, .nils], .bool false]) := by
        intro hb
        cases x with
        | block s inner => exact absurd rfl (hb s inner)
        | box w h => exact ⟨by rw [toldS], htas⟩
        | text ns => exact ⟨by rw [toldS], htas⟩
        | float w h d => exact ⟨by rw [toldS], htas⟩
      by_cases hb : ∃ s inner, x = .block s inner
      · obtain ⟨s, inner, rfl⟩ := hb
        simp only at htas
        rw [wfS] at hwx
        rw [encSs_eq] at htas
        generalize hxv : encS (Shp.block s inner) = xv at *
        have hbs : toldS (.block s inner) = { ndS (.block s inner) with size := 1 + ((toldL inner).length : Int) } :: toldL inner := by rw [toldS]
        rw [hbs] at htk hmem
        simp only [List.length_cons] at hmem
        have hcl : (s.map vI ++ [V.sl 1 (inner.map encS)]).length = 13 := by simp [hwx.1]
        have hs00 : setRowV (.agg [.int .i64 0, .int .i64 0, .int .i64 0, .int .i64 0, .int .i64 0, .int .i64 0, .int .i64 0, .int .i64 0, .int .i64 0, .int .i64 0, .int .i64 0, .int .i64 0, .nils]) 0 13 (.agg (s.map vI ++ [.sl 1 (inner.map encS)])) = some (.agg (s.map vI ++ [.sl 1 (inner.map encS)])) := by
          unfold setRowV
          rw [if_pos ⟨hcl, rfl⟩, if_pos ⟨rfl, rfl⟩]
        have h12 : (s.map vI ++ [V.sl 1 (inner.map encS)])[12]? = some (.sl 1 (inner.map encS)) := by
          rw [List.getElem?_append_right (by simp [hwx.1])]; simp [hwx.1]
        generalize hy : ndS (Shp.block s inner) = y at *
        have hysz : y.size = 1 := by rw [← hy]; rfl
        simp -implicitDefEqProofs only [BB,seval,← decide_not,okind,vpre,vpure,intBin,intPre,strBin,strPre,popTo,argSlots,fldV,fldAV,subCells,idxVV,idxAAV,idxSV,sliceV,sliceSV,boundV,szIs,storeOp,storeS,setRowV,eff,extV,buildV,splice,eqSV,fitsL,eqCells,eqCell,minmaxV,capV,binBV,nilCheckV,bytesV,V.cells,V.stays,a6,encN,Nd.cells,htas]
        refine effR_new fun id7 σ7 s7 a7 f7 => ?_
        have b6 : σ7 id6 = some ⟨58, 20, [.agg y.cells]⟩ := s7 _ _ upd_same
        have n67 : id6 ≠ id7 := ne_new (σ := upd σ6 id6 ⟨58, 20, [.agg y.cells]⟩) upd_same f7
        have S1 := s6.updK (o := ⟨58, 20, [.agg y.cells]⟩) f6
        simp only [Nd.cells,hysz] at b6
        simp -implicitDefEqProofs only [BB,seval,← decide_not,okind,vpre,vpure,intBin,intPre,strBin,strPre,popTo,argSlots,fldV,fldAV,subCells,idxVV,idxAAV,idxSV,sliceV,sliceSV,boundV,szIs,storeOp,storeS,eff,extV,buildV,splice,eqSV,fitsL,eqCells,eqCell,minmaxV,capV,binBV,nilCheckV,bytesV,V.cells,V.stays,a7,hs00,h12,V.cells_agg]
        have hge := toldL_ge inner
        refine Runs.pcall rfl rfl rfl (ih (toldL inner).length (by omega) inner (Nat.le_refl _) (by omega) (by omega) hwx.2 _) ?_
        have hle : lenV false (encNs (toldL inner)) = some (.int .i64 ((toldL inner).length : Int)) := by simp [encNs, lenV]
        have hin1 : inR .i64 (1 + ((toldL inner).length : Int)) := inR_i64 (by omega) (by omega)
        (refine Runs.of_step Orc.nothing 300 ?_; simp -implicitDefEqProofs only [BB,seval,← decide_not,okind,vpre,vpure,intBin,intPre,strBin,strPre,popTo,argSlots,fldV,fldAV,subCells,idxVV,idxAAV,idxSV,sliceV,sliceSV,boundV,szIs,storeOp,storeS,setRowV,eff,extV,buildV,splice,eqSV,fitsL,eqCells,eqCell,minmaxV,capV,binBV,nilCheckV,bytesV,V.cells,V.stays,Orc.nothing,b6,upd_ne n67,hle,hin1])
        refine effR_new fun id40 σ40 s40 a40 f40 => ?_
        have S2 := SubStore.trans (SubStore.updK (S1.trans (s7.updK f7)) f6) s40
        obtain ⟨idA, hda, hdA⟩ := out.dst' S2
        have hb : ((toldL (xs.take i)).length + 1) * 177 ≤ 140737488355328 := by omega
        simp -implicitDefEqProofs only [BB,seval,← decide_not,okind,vpre,vpure,intBin,intPre,strBin,strPre,popTo,argSlots,fldV,fldAV,subCells,idxVV,idxAAV,idxSV,sliceV,sliceSV,boundV,szIs,storeOp,storeS,setRowV,eff,extV,buildV,splice,eqSV,fitsL,eqCells,eqCell,minmaxV,capV,binBV,nilCheckV,bytesV,V.cells_agg,V.cells_int,V.cells_nils,V.cells_own,V.cells_sl,V.cells_str,V.cells_bool,V.cells_fn,V.cells_ptr,V.cells_rp,V.stays_agg,V.stays_int,V.stays_nils,V.stays_own,V.stays_sl,V.stays_str,V.stays_bool,V.stays_fn,V.stays_ptr,V.stays_rp,hda,srcOne a40,List.length_map,hb]
        refine effR_put fun id41 σ41 s41 a41 f41 => ?_
        have keep41 : ∀ q o, σ q = some o → σ41 q = some o := fun q o ho => keepA hdA s41 q o (by rw [ho]; simp) (S2 _ _ (sub _ _ ho))
        have out41 := OutV.new (K := σ) (n := (toldL (xs.take i)).length + 1) (by simp) a41 (sub.none (S2.none f41))
        obtain ⟨idB, hdb, hdB⟩ := out41.dst' (SubStore.refl σ41)
        have hsr : srcRows σ41 20 (encNs (toldL inner)) = some ((toldL inner).map encN) := by simp [encNs, srcRows]
        have hb2 : ((toldL (xs.take i)).length + 1 + (toldL inner).length) * 177 ≤ 140737488355328 := by omega
        simp -implicitDefEqProofs only [BB,seval,← decide_not,okind,vpre,vpure,intBin,intPre,strBin,strPre,popTo,argSlots,fldV,fldAV,subCells,idxVV,idxAAV,idxSV,sliceV,sliceSV,boundV,szIs,storeOp,storeS,setRowV,eff,extV,buildV,splice,eqSV,fitsL,eqCells,eqCell,minmaxV,capV,binBV,nilCheckV,bytesV,V.cells_agg,V.cells_int,V.cells_nils,V.cells_own,V.cells_sl,V.cells_str,V.cells_bool,V.cells_fn,V.cells_ptr,V.cells_rp,V.stays_agg,V.stays_int,V.stays_nils,V.stays_own,V.stays_sl,V.stays_str,V.stays_bool,V.stays_fn,V.stays_ptr,V.stays_rp,hdb,hsr,List.length_append,List.length_map,hb2]
        refine effR_put fun id43 σ43 s43 a43 f43 => ?_
        have hin : inR .i64 ((i : Int) + 1) := inR_i64 (by omega) (by omega)
        simp -implicitDefEqProofs only [BB,seval,← decide_not,okind,vpre,vpure,intBin,intPre,strBin,strPre,popTo,argSlots,fldV,fldAV,subCells,idxVV,idxAAV,idxSV,sliceV,sliceSV,boundV,szIs,storeOp,storeS,setRowV,eff,extV,buildV,splice,eqSV,fitsL,eqCells,eqCell,minmaxV,capV,binBV,nilCheckV,bytesV,V.cells,V.stays,p10,p11,p12,hin]
        have sub43 : SubStore σ σ43 := fun q o ho => keepA hdB s43 q o (by rw [ho]; simp) (keep41 _ _ ho)
        refine ⟨xs.length - (i + 1), by omega, i + 1, by omega, rfl, sub43, ?_, by simp⟩
        rw [htk, List.map_append]
        refine OutV.new (by simp; omega) (by rw [a43]; simp [encN, Nd.cells, List.append_assoc]) (by
          cases hs : σ id43 with
          | none => rfl
          | some o => rw [keep41 _ _ hs] at f43; cases f43)
      · obtain ⟨q1, q2⟩ := plain fun s inner e => hb ⟨s, inner, e⟩
        rw [q1] at htk hmem
        simp only [List.length_cons,List.length_nil] at hmem
        generalize hy : ndS x = y at *
        simp -implicitDefEqProofs only [BB,seval,← decide_not,okind,vpre,vpure,intBin,intPre,strBin,strPre,popTo,argSlots,fldV,fldAV,subCells,idxVV,idxAAV,idxSV,sliceV,sliceSV,boundV,szIs,storeOp,storeS,setRowV,eff,extV,buildV,splice,eqSV,fitsL,eqCells,eqCell,minmaxV,capV,binBV,nilCheckV,bytesV,V.cells,V.stays,a6,encN,Nd.cells,q2]
        refine effR_new fun id7 σ7 s7 a7 f7 => ?_
        have b6 : σ7 id6 = some ⟨58, 20, [.agg y.cells]⟩ := s7 _ _ upd_same
        have n67 : id6 ≠ id7 := ne_new (σ := upd σ6 id6 ⟨58, 20, [.agg y.cells]⟩) upd_same f7
        have S1 := s6.updK (o := ⟨58, 20, [.agg y.cells]⟩) f6
        simp only [Nd.cells] at b6
        simp -implicitDefEqProofs only [BB,seval,← decide_not,okind,vpre,vpure,intBin,intPre,strBin,strPre,popTo,argSlots,fldV,fldAV,subCells,idxVV,idxAAV,idxSV,sliceV,sliceSV,boundV,szIs,storeOp,storeS,setRowV,eff,extV,buildV,splice,eqSV,fitsL,eqCells,eqCell,minmaxV,capV,binBV,nilCheckV,bytesV,V.cells,V.stays,a7,b6,upd_ne n67]
        refine effR_new fun id27 σ27 s27 a27 f27 => ?_
        have S2 := (S1.trans (s7.updK f7)).trans s27
        obtain ⟨idA, hda, hdA⟩ := out.dst' S2
        have hb : ((toldL (xs.take i)).length + 1) * 177 ≤ 140737488355328 := by omega
        simp -implicitDefEqProofs only [BB,seval,← decide_not,okind,vpre,vpure,intBin,intPre,strBin,strPre,popTo,argSlots,fldV,fldAV,subCells,idxVV,idxAAV,idxSV,sliceV,sliceSV,boundV,szIs,storeOp,storeS,setRowV,eff,extV,buildV,splice,eqSV,fitsL,eqCells,eqCell,minmaxV,capV,binBV,nilCheckV,bytesV,V.cells_agg,V.cells_int,V.cells_nils,V.cells_own,V.cells_sl,V.cells_str,V.cells_bool,V.cells_fn,V.cells_ptr,V.cells_rp,V.stays_agg,V.stays_int,V.stays_nils,V.stays_own,V.stays_sl,V.stays_str,V.stays_bool,V.stays_fn,V.stays_ptr,V.stays_rp,hda,srcOne a27,List.length_map,hb]
        refine effR_put fun id28 σ28 s28 a28 f28 => ?_
        have hin : inR .i64 ((i : Int) + 1) := inR_i64 (by omega) (by omega)
        simp -implicitDefEqProofs only [BB,seval,← decide_not,okind,vpre,vpure,intBin,intPre,strBin,strPre,popTo,argSlots,fldV,fldAV,subCells,idxVV,idxAAV,idxSV,sliceV,sliceSV,boundV,szIs,storeOp,storeS,setRowV,eff,extV,buildV,splice,eqSV,fitsL,eqCells,eqCell,minmaxV,capV,binBV,nilCheckV,bytesV,V.cells,V.stays,p10,p11,p12,hin]
        have sub28 : SubStore σ σ28 := fun q o ho => keepA hdA s28 q o (by rw [ho]; simp) (S2 _ _ (sub _ _ ho))
        refine ⟨xs.length - (i + 1), by omega, i + 1, by omega, rfl, sub28, ?_, by simp⟩
        rw [htk, List.map_append]
        exact OutV.new (by simp) (by rw [a28]; rfl) (sub.none (S2.none f28))
    · have e : i = xs.length := by omega
      subst e
      have hlt' : ((xs.length : Int) < (xs.length : Int)) = False := by simp
      (refine Runs.of_step Orc.nothing 300 ?_; simp -implicitDefEqProofs only [BB,seval,effR_some,effD_some,← decide_not,okind,vpre,vpure,intBin,intPre,strBin,strPre,popTo,argSlots,fldV,fldAV,subCells,idxVV,idxAAV,idxSV,sliceV,sliceSV,boundV,szIs,storeOp,storeS,setRowV,eff,extV,buildV,splice,eqSV,fitsL,eqCells,eqCell,minmaxV,capV,binBV,nilCheckV,bytesV,V.cells,V.stays,Orc.nothing,p10,p11,p12,hlt'])
      rw [List.take_length] at out
      exact out.retv sub rfl
end Go.Vc
namespace Go.Vc
open Go.Proofs
theorem textR_ge (l : List Tk) : 2 ≤ (textR l).1.length := by unfold textR; simp
theorem nodesR_wf : ∀ (f : Nat) (l : List Tk), wfL (nodesR f l).1 ∧ (toldL (nodesR f l).1).length + (nodesR f l).2.1.length ≤ l.length
  | 0, l => ⟨by simp [nodesR, wfL], by simp [nodesR, toldL]⟩
  | f + 1, l => by
    have hT : ∀ l w, wfL (if w = true then (([] : List Shp), l, true) else nodesR f l).1 ∧ (toldL (if w = true then (([] : List Shp), l, true) else nodesR f l).1).length + (if w = true then (([] : List Shp), l, true) else nodesR f l).2.1.length ≤ l.length := by
      intro l w
      split
      · exact ⟨by simp [wfL], by simp [toldL]⟩
      · exact nodesR_wf f l
    unfold nodesR
    split
    · rename_i hs
      have h1 := (takeR_yes hs).2
      have h2 := attrsT_len (fun _ => true) plainS l.tail false
      have h3 := hT (attrsT (fun _ => true) plainS l.tail false).2.1 (attrsT (fun _ => true) plainS l.tail false).2.2
      simp only
      generalize attrsT (fun _ => true) plainS l.tail false = a at *
      generalize (if a.2.2 = true then (([] : List Shp), a.2.1, true) else nodesR f a.2.1) = n at *
      have h4 := takeR_len 93 n.2.1 n.2.2
      generalize takeR 93 n.2.1 n.2.2 = c at *
      have h5 := hT c.1 c.2
      refine ⟨by rw [wfL, wfS]; exact ⟨⟨h2.1, h3.1⟩, h5.1⟩, ?_⟩
      rw [toldL, toldS]
      simp only [List.length_append,List.length_cons]
      omega
    · split
      · rename_i hs
        have h1 := textR_len hs
        have h2 := textR_ge l
        simp only
        have h5 := hT (textR l).2.1 (textR l).2.2
        refine ⟨by rw [wfL, wfS]; exact ⟨h2, h5.1⟩, ?_⟩
        rw [toldL, toldS]
        simp only [List.length_append,List.length_cons,List.length_nil]
        omega
      · split
        · rename_i hs
          have h1 := (takeR_yes hs).2
          have h2 := boxR_len 125 l.tail false
          simp only
          have h5 := hT (boxR 125 l.tail false).2.2.1 (boxR 125 l.tail false).2.2.2
          refine ⟨by rw [wfL, wfS]; exact ⟨trivial, h5.1⟩, ?_⟩
          rw [toldL, toldS]
          simp only [List.length_append,List.length_cons,List.length_nil]
          omega
        · split
          · rename_i hs
            have h1 := floatR_len hs
            have hx : ∃ w h d, (floatR l false).1 = .float w h d := ⟨_, _, _, rfl⟩
            simp only
            have h5 := hT (floatR l false).2.1 (floatR l false).2.2
            obtain ⟨w, v, d, hx⟩ := hx
            rw [hx]
            refine ⟨by rw [wfL, wfS]; exact ⟨trivial, h5.1⟩, ?_⟩
            rw [toldL, toldS]
            simp only [List.length_append,List.length_cons,List.length_nil]
            omega
          · exact ⟨by simp [wfL], by simp [toldL]⟩
theorem fromT_len : ∀ (L l : List Tk), fromT L = .ok l → l.length ≤ L.length
  | [], l, h => by simp only [fromT,Res.ok.injEq] at h; subst h; simp
  | t :: L, l, h => by
    unfold fromT at h
    split at h
    · cases h
    · cases hL : fromT L with
      | bad p => rw [hL] at h; simp [Res.cons] at h
      | ok m =>
        rw [hL] at h
        simp only [Res.cons,Res.ok.injEq] at h
        subst h
        have := fromT_len L m hL
        simp only [List.length_cons]; omega
theorem ofI_len {s : List UInt8} {l : List Tk} (h : ofI s false 0 = .ok l) : l.length ≤ s.length := by
  rw [← ofC_eq] at h
  unfold ofC at h
  split at h
  · exact Nat.le_trans (fromT_len _ _ h) (by simpa using allI_len s s.length 0 0 (by omega))
  · split at h <;> cases h
def readR (s : List UInt8) : List Nd × Int × Int := match ofI s false 0 with
  | .bad p => ([], p, 1)
  | .ok l => match (nodesR l.length l).2.1 with
    | t :: _ => ([], t.at', 1)
    | [] => if (nodesR l.length l).2.2 then ([], s.length, 1) else (toldL (nodesR l.length l).1, 0, 0)
def readV (r : List Nd × Int × Int) : V := .tup [encNs r.1, vI r.2.1, vI r.2.2]
theorem retE {σ : Store} {a b : Int} {τ : Store} (h : SubStore σ τ) : RetV (.tup [.nils, vI a, vI b]) τ fun r σ' => r = readV ([], a, b) ∧ σ' = σ :=
  ⟨_, σ, h, Wk.tup (by simp only [WkL]; exact ⟨Wk.nils 20, Wk.refl h _, Wk.refl h _, trivial⟩), rfl, rfl⟩
theorem readOf_c (s : List UInt8) (hs : s.length ≤ 1000000) : PFun Tryz.prog 8 [.str s] (readV (readR s)) := fun σ => by
  refine Contract.of_runs Tryz.func8 e8 k8 (by simp [c8]) ?_
  refine Runs.mix 8 ?_
  (refine Runs.of_step Orc.nothing 300 ?_; simp -implicitDefEqProofs only [BB,seval,effR_some,effD_some,← decide_not,okind,vpre,vpure,intBin,intPre,strBin,strPre,popTo,argSlots,fldV,fldAV,subCells,idxVV,idxAAV,idxSV,sliceV,sliceSV,boundV,szIs,storeOp,storeS,setRowV,eff,extV,buildV,splice,eqSV,fitsL,eqCells,eqCell,minmaxV,capV,binBV,nilCheckV,bytesV,V.cells,V.stays,Orc.nothing,c8])
  refine Runs.pcall rfl rfl rfl (of_lex s hs _) ?_
  cases hl : ofI s false 0 with
  | bad p =>
    have hr : readR s = ([], (p : Int), 1) := by rw [readR, hl]
    rw [hr]
    (refine Runs.of_step Orc.nothing 300 ?_; simp -implicitDefEqProofs only [BB,seval,effR_some,effD_some,← decide_not,okind,vpre,vpure,intBin,intPre,strBin,strPre,popTo,argSlots,fldV,fldAV,subCells,idxVV,idxAAV,idxSV,sliceV,sliceSV,boundV,szIs,storeOp,storeS,setRowV,eff,extV,buildV,splice,eqSV,fitsL,eqCells,eqCell,minmaxV,capV,binBV,nilCheckV,bytesV,V.cells,V.stays,Orc.nothing,resT])
    exact retE (SubStore.refl _)
  | ok l =>
    have hll := ofI_len hl
    (refine Runs.of_step Orc.nothing 300 ?_; simp -implicitDefEqProofs only [BB,seval,← decide_not,okind,vpre,vpure,intBin,intPre,strBin,strPre,popTo,argSlots,fldV,fldAV,subCells,idxVV,idxAAV,idxSV,sliceV,sliceSV,boundV,szIs,storeOp,storeS,setRowV,eff,extV,buildV,splice,eqSV,fitsL,eqCells,eqCell,minmaxV,capV,binBV,nilCheckV,bytesV,V.cells,V.stays,Orc.nothing,resT])
    refine effR_new fun id6 σ6 s6 a6 f6 => ?_
    have h6 : σ6 id6 = some (rdr l false) := a6
    simp -implicitDefEqProofs only [BB,seval,← decide_not,okind,vpre,vpure,intBin,intPre,strBin,strPre,popTo,argSlots,fldV,fldAV,subCells,idxVV,idxAAV,idxSV,sliceV,sliceSV,boundV,szIs,storeOp,storeS,setRowV,eff,extV,buildV,splice,eqSV,fitsL,eqCells,eqCell,minmaxV,capV,binBV,nilCheckV,bytesV,V.cells,V.stays]
    refine Runs.call rfl rfl rfl (nodes_c l.length σ6 id6 l false (Nat.le_refl _) (by omega) h6) ?_
    have hn0 : nodesT l.length l false = nodesR l.length l := rfl
    rw [hn0]
    have hwf := nodesR_wf l.length l
    generalize hn : nodesR l.length l = n at *
    rintro r1 σ7 ⟨rfl, hσ7⟩
    have hσ7 : σ7 = upd σ6 id6 (rdr n.2.1 n.2.2) := hσ7
    have sub7 : SubStore σ σ7 := by rw [hσ7]; exact s6.updK f6
    have h7 : σ7 id6 = some (rdr n.2.1 n.2.2) := by rw [hσ7]; exact upd_same
    cases hrest : n.2.1 with
    | cons t r =>
      have hr : readR s = ([], t.at', 1) := by rw [readR, hl]; simp only [hn,hrest]
      rw [hr]
      rw [hrest] at h7
      have h7 : σ7 id6 = some ⟨40, 2, [.agg [.sl 4 (encT t :: r.map encT), .bool n.2.2]]⟩ := h7
      (refine Runs.of_step Orc.nothing 300 ?_; simp -implicitDefEqProofs only [BB,seval,effR_some,effD_some,← decide_not,okind,vpre,vpure,intBin,intPre,strBin,strPre,popTo,argSlots,fldV,fldAV,subCells,idxVV,idxAAV,idxSV,sliceV,sliceSV,boundV,szIs,storeOp,storeS,setRowV,eff,extV,buildV,splice,eqSV,fitsL,eqCells,eqCell,minmaxV,capV,binBV,nilCheckV,bytesV,V.cells,V.stays,Orc.nothing,h7,len1,idx0])
      exact retE sub7
    | nil =>
      rw [hrest] at h7 hwf
      have h7 : σ7 id6 = some ⟨40, 2, [.agg [.sl 4 [], .bool n.2.2]]⟩ := h7
      cases hw : n.2.2 with
      | true =>
        have hr : readR s = ([], (s.length : Int), 1) := by rw [readR, hl]; simp only [hn,hrest,hw,if_true]
        rw [hr]
        rw [hw] at h7
        (refine Runs.of_step Orc.nothing 300 ?_; simp -implicitDefEqProofs only [BB,seval,effR_some,effD_some,← decide_not,okind,vpre,vpure,intBin,intPre,strBin,strPre,popTo,argSlots,fldV,fldAV,subCells,idxVV,idxAAV,idxSV,sliceV,sliceSV,boundV,szIs,storeOp,storeS,setRowV,eff,extV,buildV,splice,eqSV,fitsL,eqCells,eqCell,minmaxV,capV,binBV,nilCheckV,bytesV,V.cells,V.stays,Orc.nothing,h7,len0])
        exact retE sub7
      | false =>
        have hr : readR s = (toldL n.1, 0, 0) := by rw [readR, hl]; simp only [hn,hrest,hw,Bool.false_eq_true,if_false]
        rw [hr]
        rw [hw] at h7
        (refine Runs.of_step Orc.nothing 300 ?_; simp -implicitDefEqProofs only [BB,seval,effR_some,effD_some,← decide_not,okind,vpre,vpure,intBin,intPre,strBin,strPre,popTo,argSlots,fldV,fldAV,subCells,idxVV,idxAAV,idxSV,sliceV,sliceSV,boundV,szIs,storeOp,storeS,setRowV,eff,extV,buildV,splice,eqSV,fitsL,eqCells,eqCell,minmaxV,capV,binBV,nilCheckV,bytesV,V.cells,V.stays,Orc.nothing,h7,len0])
        simp only [List.length_nil,Nat.add_zero] at hwf
        refine Runs.pcall rfl rfl rfl (told_c l.length n.1 hwf.2 (by omega) (Nat.le_trans (toldL_ge _) (by omega)) hwf.1 _) ?_
        (refine Runs.of_step Orc.nothing 300 ?_; simp -implicitDefEqProofs only [BB,seval,effR_some,effD_some,← decide_not,okind,vpre,vpure,intBin,intPre,strBin,strPre,popTo,argSlots,fldV,fldAV,subCells,idxVV,idxAAV,idxSV,sliceV,sliceSV,boundV,szIs,storeOp,storeS,setRowV,eff,extV,buildV,splice,eqSV,fitsL,eqCells,eqCell,minmaxV,capV,binBV,nilCheckV,bytesV,V.cells,V.stays,Orc.nothing])
        exact RetV.pure sub7 rfl
end Go.Vc
namespace Go.Vc
open Go.Proofs
theorem idxT (σ : Store) {l : List Tk} {p : Nat} (h : p < l.length) : idxAV σ 4 (encL l) (.int .i64 p) = some (.rp (.agg [vI l[p].kind, .int .i32 l[p].sign, vI l[p].n, vI l[p].at'])) := by
  simp [encL, idxAV, h, encT]
theorem lenT (l : List Tk) : lenV false (encL l) = some (.int .i64 (l.length : Int)) := by simp [encL, lenV]
theorem gsign_c (l : List Tk) (p : Nat) (c : Int) : PFun Tryz.prog 41 [encL l, vI p, .int .i32 c] (.bool (signB c (l.drop p))) := fun σ => by
  refine Contract.of_runs Tryz.func41 e41 k41 (by simp [c41]) ?_
  refine Runs.mix 7 ?_
  have hl := lenT l
  by_cases h : p < l.length
  · have h' : ((p : Int) < (l.length : Int)) = True := by simp [h]
    have hi := idxT σ h
    rw [List.drop_eq_getElem_cons h]
    (refine Runs.of_step Orc.nothing 300 ?_; simp -implicitDefEqProofs only [BB,seval,effR_some,effD_some,← decide_not,okind,vpre,vpure,intBin,intPre,strBin,strPre,popTo,argSlots,fldV,fldAV,subCells,idxVV,idxAAV,idxSV,sliceV,sliceSV,boundV,szIs,storeOp,storeS,setRowV,eff,extV,buildV,splice,eqSV,fitsL,eqCells,eqCell,minmaxV,capV,binBV,nilCheckV,bytesV,V.cells,V.stays,Orc.nothing,c41,hl,h',hi])
    exact ⟨fun h => RetV.same (by simp [signB, h]), fun h => RetV.same (by simp [signB, h])⟩
  · have h' : ((p : Int) < (l.length : Int)) = False := by simp; omega
    rw [List.drop_eq_nil_of_le (by omega)]
    (refine Runs.of_step Orc.nothing 300 ?_; simp -implicitDefEqProofs only [BB,seval,effR_some,effD_some,← decide_not,okind,vpre,vpure,intBin,intPre,strBin,strPre,popTo,argSlots,fldV,fldAV,subCells,idxVV,idxAAV,idxSV,sliceV,sliceSV,boundV,szIs,storeOp,storeS,setRowV,eff,extV,buildV,splice,eqSV,fitsL,eqCells,eqCell,minmaxV,capV,binBV,nilCheckV,bytesV,V.cells,V.stays,Orc.nothing,c41,hl,h'])
    exact RetV.same rfl
theorem gnum_c (l : List Tk) (p : Nat) (a b : Int) : PFun Tryz.prog 74 [encL l, vI p, vI a, vI b] (.bool (numB a b (l.drop p))) := fun σ => by
  refine Contract.of_runs Tryz.func74 e74 k74 (by simp [c74]) ?_
  refine Runs.mix 9 ?_
  have hl := lenT l
  by_cases h : p < l.length
  · have h' : ((p : Int) < (l.length : Int)) = True := by simp [h]
    have hi := idxT σ h
    rw [List.drop_eq_getElem_cons h]
    (refine Runs.of_step Orc.nothing 300 ?_; simp -implicitDefEqProofs only [BB,seval,effR_some,effD_some,← decide_not,okind,vpre,vpure,intBin,intPre,strBin,strPre,popTo,argSlots,fldV,fldAV,subCells,idxVV,idxAAV,idxSV,sliceV,sliceSV,boundV,szIs,storeOp,storeS,setRowV,eff,extV,buildV,splice,eqSV,fitsL,eqCells,eqCell,minmaxV,capV,binBV,nilCheckV,bytesV,V.cells,V.stays,Orc.nothing,c74,hl,h',hi])
    exact ⟨fun h => ⟨fun h2 => RetV.same (by simp [numB, h, h2]), fun h2 => RetV.same (by simp [numB, h, h2])⟩, fun h => RetV.same (by simp [numB, h])⟩
  · have h' : ((p : Int) < (l.length : Int)) = False := by simp; omega
    rw [List.drop_eq_nil_of_le (by omega)]
    (refine Runs.of_step Orc.nothing 300 ?_; simp -implicitDefEqProofs only [BB,seval,effR_some,effD_some,← decide_not,okind,vpre,vpure,intBin,intPre,strBin,strPre,popTo,argSlots,fldV,fldAV,subCells,idxVV,idxAAV,idxSV,sliceV,sliceSV,boundV,szIs,storeOp,storeS,setRowV,eff,extV,buildV,splice,eqSV,fitsL,eqCells,eqCell,minmaxV,capV,binBV,nilCheckV,bytesV,V.cells,V.stays,Orc.nothing,c74,hl,h'])
    exact RetV.same rfl
theorem gmost_c : PFun Tryz.prog 76 [] (vI MX) := fun σ => by
  refine Contract.of_runs Tryz.func76 e76 k76 (by simp [c76]) ?_
  (refine Runs.of_step Orc.nothing 300 ?_; simp -implicitDefEqProofs only [BB,seval,effR_some,effD_some,← decide_not,okind,vpre,vpure,intBin,intPre,strBin,strPre,popTo,argSlots,fldV,fldAV,subCells,idxVV,idxAAV,idxSV,sliceV,sliceSV,boundV,szIs,storeOp,storeS,setRowV,eff,extV,buildV,splice,eqSV,fitsL,eqCells,eqCell,minmaxV,capV,binBV,nilCheckV,bytesV,V.cells,V.stays,Orc.nothing,c76])
  exact RetV.same rfl
def lettersB : List UInt8 := [109, 110, 112, 113, 105, 111, 119, 104, 66, 65, 73, 99]
theorem gletters_c : PFun Tryz.prog 82 [] (.str lettersB) := fun σ => by
  refine Contract.of_runs Tryz.func82 e82 k82 (by simp [c82]) ?_
  (refine Runs.of_step Orc.nothing 300 ?_; simp -implicitDefEqProofs only [BB,seval,effR_some,effD_some,← decide_not,okind,vpre,vpure,intBin,intPre,strBin,strPre,popTo,argSlots,fldV,fldAV,subCells,idxVV,idxAAV,idxSV,sliceV,sliceSV,boundV,szIs,storeOp,storeS,setRowV,eff,extV,buildV,splice,eqSV,fitsL,eqCells,eqCell,minmaxV,capV,binBV,nilCheckV,bytesV,V.cells,V.stays,Orc.nothing,c82])
  exact RetV.same rfl
end Go.Vc
namespace Go.Vc
open Go.Proofs
def limR (c : Int) : Int × Int := if c = 111 ∨ c = 119 ∨ c = 104 then (1, MX) else if c = 66 ∨ c = 65 then (0, 4) else if c = 73 then (0, 1) else if c = 99 then (0, 3) else (0, MX)
theorem glimits_c (c : Int) : PFun Tryz.prog 73 [.int .u8 c] (.tup [vI (limR c).1, vI (limR c).2]) := fun σ => by
  refine Contract.of_runs Tryz.func73 e73 k73 (by simp [c73]) ?_
  refine Runs.mix 4 ?_
  by_cases h1 : c = 111 ∨ c = 119 ∨ c = 104
  · have hr : limR c = (1, MX) := by rw [limR, if_pos h1]
    rw [hr]
    rcases h1 with rfl | rfl | rfl
    all_goals
      (refine Runs.of_step Orc.nothing 300 ?_; simp -implicitDefEqProofs only [BB,seval,effR_some,effD_some,← decide_not,okind,vpre,vpure,intBin,intPre,strBin,strPre,popTo,argSlots,fldV,fldAV,subCells,idxVV,idxAAV,idxSV,sliceV,sliceSV,boundV,szIs,storeOp,storeS,setRowV,eff,extV,buildV,splice,eqSV,fitsL,eqCells,eqCell,minmaxV,capV,binBV,nilCheckV,bytesV,V.cells,V.stays,Orc.nothing,c73])
      refine Runs.pcall rfl rfl rfl (gmost_c _) ?_
      (refine Runs.of_step Orc.nothing 300 ?_; simp -implicitDefEqProofs only [BB,seval,effR_some,effD_some,← decide_not,okind,vpre,vpure,intBin,intPre,strBin,strPre,popTo,argSlots,fldV,fldAV,subCells,idxVV,idxAAV,idxSV,sliceV,sliceSV,boundV,szIs,storeOp,storeS,setRowV,eff,extV,buildV,splice,eqSV,fitsL,eqCells,eqCell,minmaxV,capV,binBV,nilCheckV,bytesV,V.cells,V.stays,Orc.nothing])
      exact RetV.same rfl
  · have e1 : ¬ c = 111 := fun e => h1 (.inl e)
    have e2 : ¬ c = 119 := fun e => h1 (.inr (.inl e))
    have e3 : ¬ c = 104 := fun e => h1 (.inr (.inr e))
    by_cases h2 : c = 66 ∨ c = 65
    · have hr : limR c = (0, 4) := by rw [limR, if_neg h1, if_pos h2]
      rw [hr]
      rcases h2 with rfl | rfl
      all_goals
        (refine Runs.of_step Orc.nothing 300 ?_; simp -implicitDefEqProofs only [BB,seval,effR_some,effD_some,← decide_not,okind,vpre,vpure,intBin,intPre,strBin,strPre,popTo,argSlots,fldV,fldAV,subCells,idxVV,idxAAV,idxSV,sliceV,sliceSV,boundV,szIs,storeOp,storeS,setRowV,eff,extV,buildV,splice,eqSV,fitsL,eqCells,eqCell,minmaxV,capV,binBV,nilCheckV,bytesV,V.cells,V.stays,Orc.nothing,c73])
        exact RetV.same rfl
    · have e4 : ¬ c = 66 := fun e => h2 (.inl e)
      have e5 : ¬ c = 65 := fun e => h2 (.inr e)
      by_cases h3 : c = 73
      · subst h3
        (refine Runs.of_step Orc.nothing 300 ?_; simp -implicitDefEqProofs only [BB,seval,effR_some,effD_some,← decide_not,okind,vpre,vpure,intBin,intPre,strBin,strPre,popTo,argSlots,fldV,fldAV,subCells,idxVV,idxAAV,idxSV,sliceV,sliceSV,boundV,szIs,storeOp,storeS,setRowV,eff,extV,buildV,splice,eqSV,fitsL,eqCells,eqCell,minmaxV,capV,binBV,nilCheckV,bytesV,V.cells,V.stays,Orc.nothing,c73])
        exact RetV.same rfl
      · by_cases h4 : c = 99
        · subst h4
          (refine Runs.of_step Orc.nothing 300 ?_; simp -implicitDefEqProofs only [BB,seval,effR_some,effD_some,← decide_not,okind,vpre,vpure,intBin,intPre,strBin,strPre,popTo,argSlots,fldV,fldAV,subCells,idxVV,idxAAV,idxSV,sliceV,sliceSV,boundV,szIs,storeOp,storeS,setRowV,eff,extV,buildV,splice,eqSV,fitsL,eqCells,eqCell,minmaxV,capV,binBV,nilCheckV,bytesV,V.cells,V.stays,Orc.nothing,c73])
          exact RetV.same rfl
        · have hr : limR c = (0, MX) := by rw [limR, if_neg h1, if_neg h2, if_neg h3, if_neg h4]
          rw [hr]
          (refine Runs.of_step Orc.nothing 300 ?_; simp -implicitDefEqProofs only [BB,seval,effR_some,effD_some,← decide_not,okind,vpre,vpure,intBin,intPre,strBin,strPre,popTo,argSlots,fldV,fldAV,subCells,idxVV,idxAAV,idxSV,sliceV,sliceSV,boundV,szIs,storeOp,storeS,setRowV,eff,extV,buildV,splice,eqSV,fitsL,eqCells,eqCell,minmaxV,capV,binBV,nilCheckV,bytesV,V.cells,V.stays,Orc.nothing,c73,e1,e2,e3,e4,e5,h3,h4])
          refine Runs.pcall rfl rfl rfl (gmost_c _) ?_
          (refine Runs.of_step Orc.nothing 300 ?_; simp -implicitDefEqProofs only [BB,seval,effR_some,effD_some,← decide_not,okind,vpre,vpure,intBin,intPre,strBin,strPre,popTo,argSlots,fldV,fldAV,subCells,idxVV,idxAAV,idxSV,sliceV,sliceSV,boundV,szIs,storeOp,storeS,setRowV,eff,extV,buildV,splice,eqSV,fitsL,eqCells,eqCell,minmaxV,capV,binBV,nilCheckV,bytesV,V.cells,V.stays,Orc.nothing])
          exact RetV.same rfl
theorem ite_or {p : Prop} [Decidable p] {x r : Nat × Int × Int} {o : Option (Nat × Int × Int)} {A B : Prop} (h : (if p then some x else o) = some r) (h1 : p → x = r → A) (h2 : o = some r → B) : A ∨ B := by
  split at h
  · rename_i hp; simp only [Option.some.injEq] at h; exact .inl (h1 hp h)
  · exact .inr (h2 h)
set_option maxRecDepth 100000 in
theorem gwith_c (s : List Int) (hs : s.length = 12) (c n : Int) (kk : Nat) (a b : Int) (hc : spec c = some (kk, a, b)) : PFun Tryz.prog 75 [.agg (s.map vI), .int .u8 c, vI n] (.agg ((s.set kk n).map vI)) := fun σ => by
  refine Contract.of_runs Tryz.func75 e75 k75 (by simp [c75]) ?_
  match s, hs with
  | [x0, x1, x2, x3, x4, x5, x6, x7, x8, x9, x10, x11], _ =>
    simp only [List.map_cons,List.map_nil]
    have hcs : (c = 99 ∧ kk = 11) ∨ (c = 73 ∧ kk = 10) ∨ (c = 65 ∧ kk = 9) ∨ (c = 66 ∧ kk = 8) ∨ (c = 104 ∧ kk = 7) ∨ (c = 119 ∧ kk = 6) ∨ (c = 111 ∧ kk = 5) ∨ (c = 105 ∧ kk = 4) ∨ (c = 113 ∧ kk = 3) ∨ (c = 112 ∧ kk = 2) ∨ (c = 110 ∧ kk = 1) ∨ (c = 109 ∧ kk = 0) := by
      exact ite_or hc (fun e h => ⟨e, (Prod.mk.inj h).1.symm⟩) <| fun hc => ite_or hc (fun e h => ⟨e, (Prod.mk.inj h).1.symm⟩) <| fun hc => ite_or hc (fun e h => ⟨e, (Prod.mk.inj h).1.symm⟩) <| fun hc => ite_or hc (fun e h => ⟨e, (Prod.mk.inj h).1.symm⟩) <| fun hc => ite_or hc (fun e h => ⟨e, (Prod.mk.inj h).1.symm⟩) <| fun hc => ite_or hc (fun e h => ⟨e, (Prod.mk.inj h).1.symm⟩) <| fun hc => ite_or hc (fun e h => ⟨e, (Prod.mk.inj h).1.symm⟩) <| fun hc => ite_or hc (fun e h => ⟨e, (Prod.mk.inj h).1.symm⟩) <| fun hc => ite_or hc (fun e h => ⟨e, (Prod.mk.inj h).1.symm⟩) <| fun hc => ite_or hc (fun e h => ⟨e, (Prod.mk.inj h).1.symm⟩) <| fun hc => ite_or hc (fun e h => ⟨e, (Prod.mk.inj h).1.symm⟩) <| fun hc => by
        split at hc
        · rename_i e
          simp only [Option.some.injEq] at hc
          exact ⟨e, (Prod.mk.inj hc).1.symm⟩
        · cases hc
    clear hc
    rcases hcs with ⟨rfl, rfl⟩ | ⟨rfl, rfl⟩ | ⟨rfl, rfl⟩ | ⟨rfl, rfl⟩ | ⟨rfl, rfl⟩ | ⟨rfl, rfl⟩ | ⟨rfl, rfl⟩ | ⟨rfl, rfl⟩ | ⟨rfl, rfl⟩ | ⟨rfl, rfl⟩ | ⟨rfl, rfl⟩ | ⟨rfl, rfl⟩
    all_goals
      (refine Runs.of_step Orc.nothing 300 ?_; simp -implicitDefEqProofs only [BB,seval,← decide_not,okind,vpre,vpure,intBin,intPre,strBin,strPre,popTo,argSlots,fldV,fldAV,subCells,idxVV,idxAAV,idxSV,sliceV,sliceSV,boundV,szIs,storeOp,storeS,setRowV,eff,extV,buildV,splice,eqSV,fitsL,eqCells,eqCell,minmaxV,capV,binBV,nilCheckV,bytesV,V.cells,V.stays,Orc.nothing,c75])
      refine effR_new fun id1 σ1 s1 a1 f1 => ?_
      simp -implicitDefEqProofs only [BB,seval,← decide_not,okind,vpre,vpure,intBin,intPre,strBin,strPre,popTo,argSlots,fldV,fldAV,subCells,idxVV,idxAAV,idxSV,sliceV,sliceSV,boundV,szIs,storeOp,storeS,setRowV,eff,extV,buildV,splice,eqSV,fitsL,eqCells,eqCell,minmaxV,capV,binBV,nilCheckV,bytesV,V.cells,V.stays]
      refine effR_new fun id2 σ2 s2 a2 f2 => ?_
      have b1 := s2 _ _ a1
      have n12 := ne_new a1 f2
      simp -implicitDefEqProofs only [BB,seval,← decide_not,okind,vpre,vpure,intBin,intPre,strBin,strPre,popTo,argSlots,fldV,fldAV,subCells,idxVV,idxAAV,idxSV,sliceV,sliceSV,boundV,szIs,storeOp,storeS,setRowV,eff,extV,buildV,splice,eqSV,fitsL,eqCells,eqCell,minmaxV,capV,binBV,nilCheckV,bytesV,V.cells,V.stays,b1,a2,upd_ne n12,upd_ne n12.symm]
      exact ⟨_, σ, ((s1.trans s2).updK f1).updK (s1.none f2), Wk.refl (((s1.trans s2).updK f1).updK (s1.none f2)) _, rfl, rfl⟩
end Go.Vc
namespace Go.Vc
open Go.Proofs
def letF (told : List UInt8) (l : List Tk) : List UInt8 → Int
  | [] => 0
  | c :: cs => if signB c.toNat l then (if told.contains c then 0 else c.toNat) else letF told l cs
def letterR (told : List UInt8) (l : List Tk) : Int := letF told l lettersB
set_option maxRecDepth 100000 in
theorem gletter_c (l : List Tk) (p : Nat) (told : List UInt8) (ht : told.length ≤ 1000000) : PFun Tryz.prog 72 [encL l, vI p, .str told] (.int .u8 (letterR told (l.drop p))) := fun σ => by
  refine Contract.of_runs Tryz.func72 e72 k72 (by simp [c72]) ?_
  refine Runs.mix 10 ?_
  (refine Runs.of_step Orc.nothing 300 ?_; simp -implicitDefEqProofs only [BB,seval,effR_some,effD_some,← decide_not,okind,vpre,vpure,intBin,intPre,strBin,strPre,popTo,argSlots,fldV,fldAV,subCells,idxVV,idxAAV,idxSV,sliceV,sliceSV,boundV,szIs,storeOp,storeS,setRowV,eff,extV,buildV,splice,eqSV,fitsL,eqCells,eqCell,minmaxV,capV,binBV,nilCheckV,bytesV,V.cells,V.stays,Orc.nothing,c72])
  refine Runs.pcall rfl rfl rfl (gletters_c _) ?_
  (refine Runs.of_step Orc.nothing 300 ?_; simp -implicitDefEqProofs only [BB,seval,effR_some,effD_some,← decide_not,okind,vpre,vpure,intBin,intPre,strBin,strPre,popTo,argSlots,fldV,fldAV,subCells,idxVV,idxAAV,idxSV,sliceV,sliceSV,boundV,szIs,storeOp,storeS,setRowV,eff,extV,buildV,splice,eqSV,fitsL,eqCells,eqCell,minmaxV,capV,binBV,nilCheckV,bytesV,V.cells,V.stays,Orc.nothing])
  refine Runs.loop (fun m st => ∃ i, i ≤ 12 ∧ m = 12 - i ∧ letterR told (l.drop p) = letF told (l.drop p) (lettersB.drop i) ∧ st.σ = σ ∧ st.s 0 = encL l ∧ st.s 1 = vI p ∧ st.s 2 = .str told ∧ st.s 7 = .str lettersB ∧ st.s 8 = vI (i : Int)) 12
    ⟨0, by omega, by omega, rfl, rfl, rfl, rfl, rfl, rfl, rfl⟩ ?_
  rintro m ⟨S, σ1⟩ ⟨i, hi, rfl, hT, rfl, p0, p1, p2, p7, p8⟩
  simp only at p0 p1 p2 p7 p8
  refine Runs.mix 10 ?_
  have hll : lenV true (.str lettersB) = some (.int .i64 12) := rfl
  by_cases hlt : i < 12
  · have hlt' : ((i : Int) < 12) = True := by simp; omega
    have hx : lettersB.drop i = lettersB[i]'(by simpa [lettersB] using hlt) :: lettersB.drop (i + 1) := List.drop_eq_getElem_cons (by simpa [lettersB] using hlt)
    generalize hc : lettersB[i]'(by simpa [lettersB] using hlt) = c at *
    have hidx : idxSV (.str lettersB) (.int .i64 (i : Int)) = some (.int .u8 (c.toNat : Int)) := by
      rw [← hc]
      simp [idxSV, lettersB, hlt]
    rw [hx, letF] at hT
    (refine Runs.of_step Orc.nothing 300 ?_; simp -implicitDefEqProofs only [BB,seval,effR_some,effD_some,← decide_not,okind,vpre,vpure,intBin,intPre,strBin,strPre,popTo,argSlots,fldV,fldAV,subCells,idxVV,idxAAV,sliceV,sliceSV,boundV,szIs,storeOp,storeS,setRowV,eff,extV,buildV,splice,eqSV,fitsL,eqCells,eqCell,minmaxV,capV,binBV,nilCheckV,bytesV,V.cells,V.stays,Orc.nothing,p0,p1,p2,p7,p8,hll,hlt',hidx])
    have hc8 : c.toNat < 256 := c.toNat_lt
    refine ⟨inR_i32 (by omega) (by omega), ?_⟩
    refine Runs.pcall rfl rfl rfl (gsign_c l p c.toNat _) ?_
    have hin : inR .i64 ((i : Int) + 1) := inR_i64 (by omega) (by omega)
    cases hs : signB c.toNat (l.drop p) with
    | false =>
      rw [hs] at hT
      (refine Runs.of_step Orc.nothing 300 ?_; simp -implicitDefEqProofs only [BB,seval,effR_some,effD_some,← decide_not,okind,vpre,vpure,intBin,intPre,strBin,strPre,popTo,argSlots,fldV,fldAV,subCells,idxVV,idxAAV,idxSV,sliceV,sliceSV,boundV,szIs,storeOp,storeS,setRowV,eff,extV,buildV,splice,eqSV,fitsL,eqCells,eqCell,minmaxV,capV,binBV,nilCheckV,bytesV,V.cells,V.stays,Orc.nothing,p8,hin])
      exact ⟨12 - (i + 1), by omega, i + 1, by omega, rfl, by simpa using hT, p0, p1, p2, p7, by simp⟩
    | true =>
      rw [hs] at hT
      simp only [if_true] at hT
      (refine Runs.of_step Orc.nothing 300 ?_; simp -implicitDefEqProofs only [BB,seval,effR_some,effD_some,← decide_not,okind,vpre,vpure,intBin,intPre,strBin,strPre,popTo,argSlots,fldV,fldAV,subCells,idxVV,idxAAV,idxSV,sliceV,sliceSV,boundV,szIs,storeOp,storeS,setRowV,eff,extV,buildV,splice,eqSV,fitsL,eqCells,eqCell,minmaxV,capV,binBV,nilCheckV,bytesV,V.cells,V.stays,Orc.nothing,p0])
      refine Runs.loop (fun m st => ∃ k, k ≤ told.length ∧ m = told.length - k ∧ (∀ b ∈ told.take k, b ≠ c) ∧ st.σ = σ1 ∧ st.s 2 = .str told ∧ st.s 7 = .str lettersB ∧ st.s 8 = vI (i : Int) ∧ st.s 9 = vI (k : Int)) told.length
        ⟨0, by omega, by omega, by simp, rfl, p2, p7, p8, rfl⟩ ?_
      rintro m ⟨S2, σ2⟩ ⟨k, hk, rfl, hno, rfl, q2, q7, q8, q9⟩
      simp only at q2 q7 q8 q9
      refine Runs.mix 10 ?_
      have hlt2 : lenV true (.str told) = some (.int .i64 (told.length : Int)) := rfl
      by_cases hkl : k < told.length
      · have hk' : ((k : Int) < (told.length : Int)) = True := by simp [hkl]
        have hix : idxSV (.str told) (.int .i64 (k : Int)) = some (.int .u8 (told[k].toNat : Int)) := by simp [idxSV, hkl]
        have hin2 : inR .i64 ((k : Int) + 1) := inR_i64 (by omega) (by omega)
        by_cases hb : told[k] = c
        · have hcon : told.contains c = true := by
            rw [List.contains_iff_mem, ← hb]; exact List.getElem_mem hkl
          rw [hcon] at hT
          simp only [if_true] at hT
          (refine Runs.of_step Orc.nothing 300 ?_; simp -implicitDefEqProofs only [BB,seval,effR_some,effD_some,← decide_not,okind,vpre,vpure,intBin,intPre,strBin,strPre,popTo,argSlots,fldV,fldAV,subCells,idxVV,idxAAV,sliceV,sliceSV,boundV,szIs,storeOp,storeS,setRowV,eff,extV,buildV,splice,eqSV,fitsL,eqCells,eqCell,minmaxV,capV,binBV,nilCheckV,bytesV,V.cells,V.stays,Orc.nothing,q2,q7,q8,q9,hlt2,hk',hix,hidx,hb])
          rw [hT]
          exact RetV.same rfl
        · have hbn : ((told[k].toNat : Int) = (c.toNat : Int)) = False := by
            simp only [eq_iff_iff,iff_false]
            intro e
            exact hb (UInt8.toNat_inj.1 (by omega))
          (refine Runs.of_step Orc.nothing 300 ?_; simp -implicitDefEqProofs only [BB,seval,effR_some,effD_some,← decide_not,okind,vpre,vpure,intBin,intPre,strBin,strPre,popTo,argSlots,fldV,fldAV,subCells,idxVV,idxAAV,sliceV,sliceSV,boundV,szIs,storeOp,storeS,setRowV,eff,extV,buildV,splice,eqSV,fitsL,eqCells,eqCell,minmaxV,capV,binBV,nilCheckV,bytesV,V.cells,V.stays,Orc.nothing,q2,q7,q8,q9,hlt2,hk',hix,hidx,hbn,hin2])
          refine ⟨told.length - (k + 1), by omega, k + 1, by omega, rfl, ?_, by simp⟩
          intro b hbm
          rw [List.take_succ, List.getElem?_eq_getElem hkl] at hbm
          simp only [Option.toList_some,List.mem_append,List.mem_singleton] at hbm
          rcases hbm with h1 | h1
          · exact hno b h1
          · rw [h1]; exact hb
      · have e : k = told.length := by omega
        subst e
        have hk' : ((told.length : Int) < (told.length : Int)) = False := by simp
        have hcon : told.contains c = false := by
          rw [List.take_length] at hno
          rw [← Bool.not_eq_true, List.contains_iff_mem]
          exact fun hm => hno c hm rfl
        rw [hcon] at hT
        simp only [Bool.false_eq_true,if_false] at hT
        (refine Runs.of_step Orc.nothing 300 ?_; simp -implicitDefEqProofs only [BB,seval,effR_some,effD_some,← decide_not,okind,vpre,vpure,intBin,intPre,strBin,strPre,popTo,argSlots,fldV,fldAV,subCells,idxVV,idxAAV,sliceV,sliceSV,boundV,szIs,storeOp,storeS,setRowV,eff,extV,buildV,splice,eqSV,fitsL,eqCells,eqCell,minmaxV,capV,binBV,nilCheckV,bytesV,V.cells,V.stays,Orc.nothing,q2,q7,q8,q9,hlt2,hk',hidx])
        rw [hT]
        exact RetV.same rfl
  · have e : i = 12 := by omega
    subst e
    have hlt' : (((12 : Nat) : Int) < 12) = False := by simp
    (refine Runs.of_step Orc.nothing 300 ?_; simp -implicitDefEqProofs only [BB,seval,effR_some,effD_some,← decide_not,okind,vpre,vpure,intBin,intPre,strBin,strPre,popTo,argSlots,fldV,fldAV,subCells,idxVV,idxAAV,idxSV,sliceV,sliceSV,boundV,szIs,storeOp,storeS,setRowV,eff,extV,buildV,splice,eqSV,fitsL,eqCells,eqCell,minmaxV,capV,binBV,nilCheckV,bytesV,V.cells,V.stays,Orc.nothing,p0,p1,p2,p7,p8,hll,hlt'])
    rw [hT]
    exact RetV.same rfl
end Go.Vc
namespace Go.Vc
open Go.Proofs
abbrev GR := List Nd × Nat × Bool
def encG (r : GR) : V := .agg [encNs r.1, vI r.2.1, vI (if r.2.2 then 1 else 0)]
def tokN (l : List Tk) (p : Nat) : Int := ((l[p]?).map Tk.n).getD 0
def gboxR (l : List Tk) (p : Nat) (x : Nd) (e : Int) : GR :=
  if numB 1 MX (l.drop p) = false then ([], p, true)
  else if numB 1 MX (l.drop (p + 1)) = false then ([], p + 1, true)
  else if signB e (l.drop (p + 2)) = false then ([], p + 2, true)
  else ([{ x with w := tokN l p, h := tokN l (p + 1) }], p + 3, false)
theorem numB_lt {a b : Int} {l : List Tk} {p : Nat} (h : numB a b (l.drop p) = true) : p < l.length := by
  apply Classical.byContradiction
  intro hn
  rw [List.drop_eq_nil_of_le (by omega)] at h
  cases h
theorem retG {σ τ : Store} {p : Nat} (h : SubStore σ τ) : RetV (.agg [.nils, vI p, vI 1]) τ fun r σ' => r = encG ([], p, true) ∧ σ' = σ :=
  ⟨_, σ, h, Wk.agg (vs' := [.sl 20 [], vI p, vI 1]) (by simp only [WkL]; exact ⟨Wk.nils 20, Wk.refl h _, Wk.refl h _, trivial⟩), rfl, rfl⟩
theorem retGN {σ τ : Store} {id8 id48 : Nat} {y : Nd} {p : Nat} {a : Int} {v : V} {o : Ob} (h : SubStore σ τ) (h8 : σ id8 = none) (n : id8 ≠ id48) (a48 : τ id48 = some ⟨58, 20, [v]⟩) (f48 : σ id48 = none) (hv : v = encN y ∧ a = (p : Int)) :
    RetV (.agg [.own id48 0 1, .int .i64 a, .int .i64 0]) (upd τ id8 o) fun r σ' => r = encG ([y], p, false) ∧ σ' = σ := by
  obtain ⟨rfl, rfl⟩ := hv
  have hs : SubStore σ (upd τ id8 o) := h.updK h8
  have hown := Wk.own (off := 0) (len := 1) hs (by rw [upd_ne n.symm]; exact a48) f48 (by simp)
  exact ⟨_, σ, hs, Wk.agg (vs' := [.sl 20 [encN y], vI (p : Int), vI 0]) (by simp only [WkL]; exact ⟨hown, Wk.refl hs _, Wk.refl hs _, trivial⟩), by simp [encG, encNs], rfl⟩
set_option maxRecDepth 100000 in
theorem gbox_c (l : List Tk) (p : Nat) (x : Nd) (e : Int) (hp : p ≤ 1000000) : PFun Tryz.prog 63 [encL l, vI p, encN x, .int .i32 e] (encG (gboxR l p x e)) := fun σ => by
  refine Contract.of_runs Tryz.func63 e63 k63 (by simp [c63]) ?_
  refine Runs.mix 10 ?_
  have hcl : (encN x).cells.length = 20 := rfl
  have hst : (encN x).stays = true := rfl
  (refine Runs.of_step Orc.nothing 300 ?_; simp -implicitDefEqProofs only [BB,seval,← decide_not,okind,vpre,vpure,intBin,intPre,strBin,strPre,popTo,argSlots,fldV,fldAV,subCells,idxVV,idxAAV,idxSV,sliceV,sliceSV,boundV,szIs,storeOp,storeS,setRowV,eff,extV,buildV,splice,eqSV,fitsL,eqCells,eqCell,minmaxV,capV,binBV,nilCheckV,bytesV,V.cells,V.stays,Orc.nothing,c63,hcl,hst])
  refine effR_new fun id6 σ6 s6 a6 f6 => ?_
  simp -implicitDefEqProofs only [BB,seval,← decide_not,okind,vpre,vpure,intBin,intPre,strBin,strPre,popTo,argSlots,fldV,fldAV,subCells,idxVV,idxAAV,idxSV,sliceV,sliceSV,boundV,szIs,storeOp,storeS,setRowV,eff,extV,buildV,splice,eqSV,fitsL,eqCells,eqCell,minmaxV,capV,binBV,nilCheckV,bytesV,V.cells,V.stays]
  refine effR_new fun id8 σ8 s8 a8 f8 => ?_
  have b6 := s8 _ _ a6
  have n68 := ne_new a6 f8
  have hsub : SubStore σ σ8 := s6.trans s8
  simp -implicitDefEqProofs only [BB,seval,← decide_not,okind,vpre,vpure,intBin,intPre,strBin,strPre,popTo,argSlots,fldV,fldAV,subCells,idxVV,idxAAV,idxSV,sliceV,sliceSV,boundV,szIs,storeOp,storeS,setRowV,eff,extV,buildV,splice,eqSV,fitsL,eqCells,eqCell,minmaxV,capV,binBV,nilCheckV,bytesV,V.cells,V.stays]
  refine Runs.loop (fun m st => ∃ i, i ≤ 2 ∧ m = 2 - i ∧ (∀ j, j < i → numB 1 MX (l.drop (p + j)) = true) ∧ st.σ = σ8 ∧ st.s 0 = encL l ∧ st.s 1 = vI p ∧ st.s 3 = .int .i32 e ∧ st.s 6 = .ptr id6 0 0 ∧ st.s 8 = .ptr id8 0 0 ∧ st.s 9 = vI (i : Int)) 2
    ⟨0, by omega, by omega, fun j hj => by omega, rfl, rfl, rfl, rfl, rfl, rfl, rfl⟩ ?_
  rintro m ⟨S, σ9⟩ ⟨i, hi, rfl, hall, hσ9, p0, p1, p3, p6, p8, p9⟩
  simp only at hσ9 p0 p1 p3 p6 p8 p9
  subst hσ9
  refine Runs.mix 10 ?_
  have hin : inR .i64 ((p : Int) + (i : Int)) := inR_i64 (by omega) (by omega)
  have hin1 : inR .i64 ((i : Int) + 1) := inR_i64 (by omega) (by omega)
  have hpi : (p : Int) + (i : Int) = ((p + i : Nat) : Int) := by omega
  by_cases hlt : i < 2
  · have hlt' : ((i : Int) < 2) = True := by simp; omega
    (refine Runs.of_step Orc.nothing 300 ?_; simp -implicitDefEqProofs only [BB,seval,effR_some,effD_some,← decide_not,okind,vpre,vpure,intBin,intPre,strBin,strPre,popTo,argSlots,fldV,fldAV,subCells,idxVV,idxAAV,idxSV,sliceV,sliceSV,boundV,szIs,storeOp,storeS,setRowV,eff,extV,buildV,splice,eqSV,fitsL,eqCells,eqCell,minmaxV,capV,binBV,nilCheckV,bytesV,V.cells,V.stays,Orc.nothing,p0,p1,p3,p6,p8,p9,hlt',hin])
    refine Runs.pcall rfl rfl rfl (gmost_c _) ?_
    rw [hpi]
    (refine Runs.of_step Orc.nothing 300 ?_; simp -implicitDefEqProofs only [BB,seval,effR_some,effD_some,← decide_not,okind,vpre,vpure,intBin,intPre,strBin,strPre,popTo,argSlots,fldV,fldAV,subCells,idxVV,idxAAV,idxSV,sliceV,sliceSV,boundV,szIs,storeOp,storeS,setRowV,eff,extV,buildV,splice,eqSV,fitsL,eqCells,eqCell,minmaxV,capV,binBV,nilCheckV,bytesV,V.cells,V.stays,Orc.nothing])
    refine Runs.pcall rfl rfl rfl (gnum_c l (p + i) 1 MX _) ?_
    cases hn : numB 1 MX (l.drop (p + i)) with
    | false =>
      have hr : gboxR l p x e = ([], p + i, true) := by
        unfold gboxR
        match i, hlt with
        | 0, _ => exact if_pos hn
        | 1, _ => rw [if_neg (by rw [show l.drop p = l.drop (p + 0) from rfl, hall 0 (by omega)]; simp), if_pos hn]
      rw [hr]
      (refine Runs.of_step Orc.nothing 300 ?_; simp -implicitDefEqProofs only [BB,seval,effR_some,effD_some,← decide_not,okind,vpre,vpure,intBin,intPre,strBin,strPre,popTo,argSlots,fldV,fldAV,subCells,idxVV,idxAAV,idxSV,sliceV,sliceSV,boundV,szIs,storeOp,storeS,setRowV,eff,extV,buildV,splice,eqSV,fitsL,eqCells,eqCell,minmaxV,capV,binBV,nilCheckV,bytesV,V.cells,V.stays,Orc.nothing,p1,p8,p9,hin,a8])
      rw [hpi]
      exact retG (hsub.updK (s6.none f8))
    | true =>
      (refine Runs.of_step Orc.nothing 300 ?_; simp -implicitDefEqProofs only [BB,seval,effR_some,effD_some,← decide_not,okind,vpre,vpure,intBin,intPre,strBin,strPre,popTo,argSlots,fldV,fldAV,subCells,idxVV,idxAAV,idxSV,sliceV,sliceSV,boundV,szIs,storeOp,storeS,setRowV,eff,extV,buildV,splice,eqSV,fitsL,eqCells,eqCell,minmaxV,capV,binBV,nilCheckV,bytesV,V.cells,V.stays,Orc.nothing,p9,hin1])
      refine ⟨2 - (i + 1), by omega, i + 1, by omega, rfl, ?_⟩
      refine ⟨fun j hj => ?_, p0, p1, p3, p6, p8, by simp⟩
      by_cases hji : j = i
      · subst hji; exact hn
      · exact hall j (by omega)
  · have e : i = 2 := by omega
    subst e
    have hlt' : (((2 : Nat) : Int) < 2) = False := by simp
    have n0 := hall 0 (by omega)
    have n1 := hall 1 (by omega)
    rw [Nat.add_zero] at n0
    have hi1 : inR .i64 ((p : Int) + 1) := inR_i64 (by omega) (by omega)
    have hi2 : inR .i64 ((p : Int) + 2) := inR_i64 (by omega) (by omega)
    have hi3 : inR .i64 ((p : Int) + 3) := inR_i64 (by omega) (by omega)
    have e2 : (p : Int) + 2 = ((p + 2 : Nat) : Int) := by omega
    (refine Runs.of_step Orc.nothing 300 ?_; simp -implicitDefEqProofs only [BB,seval,effR_some,effD_some,← decide_not,okind,vpre,vpure,intBin,intPre,strBin,strPre,popTo,argSlots,fldV,fldAV,subCells,idxVV,idxAAV,idxSV,sliceV,sliceSV,boundV,szIs,storeOp,storeS,setRowV,eff,extV,buildV,splice,eqSV,fitsL,eqCells,eqCell,minmaxV,capV,binBV,nilCheckV,bytesV,V.cells,V.stays,Orc.nothing,p0,p1,p3,p6,p8,p9,hlt',hi2])
    rw [e2]
    refine Runs.pcall rfl rfl rfl (gsign_c l (p + 2) e _) ?_
    cases hs : signB e (l.drop (p + 2)) with
    | false =>
      have hr : gboxR l p x e = ([], p + 2, true) := by
        unfold gboxR
        rw [if_neg (by rw [n0]; simp), if_neg (by rw [n1]; simp), if_pos hs]
      rw [hr]
      (refine Runs.of_step Orc.nothing 300 ?_; simp -implicitDefEqProofs only [BB,seval,effR_some,effD_some,← decide_not,okind,vpre,vpure,intBin,intPre,strBin,strPre,popTo,argSlots,fldV,fldAV,subCells,idxVV,idxAAV,idxSV,sliceV,sliceSV,boundV,szIs,storeOp,storeS,setRowV,eff,extV,buildV,splice,eqSV,fitsL,eqCells,eqCell,minmaxV,capV,binBV,nilCheckV,bytesV,V.cells,V.stays,Orc.nothing,p1,p8,hi2,a8])
      rw [e2]
      exact retG (hsub.updK (s6.none f8))
    | true =>
      have hr : gboxR l p x e = ([{ x with w := tokN l p, h := tokN l (p + 1) }], p + 3, false) := by
        unfold gboxR
        rw [if_neg (by rw [n0]; simp), if_neg (by rw [n1]; simp), if_neg (by rw [hs]; simp)]
      rw [hr]
      have q0 := numB_lt n0
      have q1 := numB_lt n1
      have hx0 := fun σ => idxT σ q0
      have hx1 := fun σ => idxT σ q1
      have e1 : ((p + 1 : Nat) : Int) = (p : Int) + 1 := by omega
      rw [e1] at hx1
      have t0 : tokN l p = l[p].n := by simp [tokN, q0]
      have t1 : tokN l (p + 1) = l[p + 1].n := by simp [tokN, q1]
      rw [t0, t1]
      simp only [encN,Nd.cells] at b6
      (refine Runs.of_step Orc.nothing 300 ?_; simp -implicitDefEqProofs only [BB,seval,← decide_not,okind,vpre,vpure,intBin,intPre,strBin,strPre,popTo,argSlots,fldV,fldAV,subCells,idxVV,idxAAV,idxSV,sliceV,sliceSV,boundV,szIs,storeOp,storeS,setRowV,eff,extV,buildV,splice,eqSV,fitsL,eqCells,eqCell,minmaxV,capV,binBV,nilCheckV,bytesV,V.cells,V.stays,Orc.nothing,p0,p1,p6,p8,hx0,hx1,hi1,b6,a8,upd_ne n68,upd_ne n68.symm])
      refine effR_new fun id48 σ10 s10 a10 f10 => ?_
      have c8 := s10 id8 _ (by rw [upd_ne n68.symm]; exact a8)
      have n48 : id8 ≠ id48 := ne_new (show upd σ9 id6 _ id8 = some _ by rw [upd_ne n68.symm]; exact a8) f10
      simp -implicitDefEqProofs only [BB,seval,← decide_not,okind,vpre,vpure,intBin,intPre,strBin,strPre,popTo,argSlots,fldV,fldAV,subCells,idxVV,idxAAV,idxSV,sliceV,sliceSV,boundV,szIs,storeOp,storeS,setRowV,eff,extV,buildV,splice,eqSV,fitsL,eqCells,eqCell,minmaxV,capV,binBV,nilCheckV,bytesV,V.cells,V.stays,p1,p8,hi3,c8]
      have hz := SubStore.trans (SubStore.updK hsub f6) s10
      have hf := (SubStore.updK hsub f6).none f10
      exact retGN hz (s6.none f8) n48 a10 hf ⟨by simp [encN, Nd.cells], by omega⟩
end Go.Vc
namespace Go.Vc
theorem count_yes {a b : Int} {l : List Tk} {p : Nat} (h : numB a b (l.drop p) = true) : countR a b (l.drop p) false = (tokN l p, l.drop (p + 1), false) := by
  have hp := numB_lt h
  have ht : tokN l p = l[p].n := by simp [tokN, hp]
  rw [List.drop_eq_getElem_cons hp] at h ⊢
  rw [ht]
  simp only [countR,h,Bool.not_true,Bool.or_self,Bool.false_eq_true,if_false]
theorem count_no {a b : Int} {l : List Tk} (h : numB a b l = false) : (countR a b l false).2 = (l, true) := by
  cases l with
  | nil => rfl
  | cons t r => simp [countR, h]
theorem count_w (a b : Int) (l : List Tk) : (countR a b l true).2 = (l, true) := by
  cases l with
  | nil => rfl
  | cons t r => simp [countR]
theorem take_w (c : Int) (l : List Tk) : takeR c l true = (l, true) := by simp [takeR]
theorem take_no {c : Int} {l : List Tk} (h : signB c l = false) : takeR c l false = (l, true) := by simp [takeR, h]
theorem signB_lt {c : Int} {l : List Tk} {p : Nat} (h : signB c (l.drop p) = true) : p < l.length := by
  apply Classical.byContradiction
  intro hn
  rw [List.drop_eq_nil_of_le (by omega)] at h
  cases h
theorem take_yes {c : Int} {l : List Tk} {p : Nat} (h : signB c (l.drop p) = true) : takeR c (l.drop p) false = (l.drop (p + 1), false) := by
  simp [takeR, h]
theorem gbox_eq (l : List Tk) (p : Nat) (x : Nd) (e : Int) (hp : p ≤ l.length) : gboxR l p x e =
    if (boxR e (l.drop p) false).2.2.2 then ([], l.length - (boxR e (l.drop p) false).2.2.1.length, true)
    else ([{ x with w := (boxR e (l.drop p) false).1, h := (boxR e (l.drop p) false).2.1 }], l.length - (boxR e (l.drop p) false).2.2.1.length, false) := by
  have hb : boxR e (l.drop p) false = ((countR 1 MX (l.drop p) false).1, (countR 1 MX (countR 1 MX (l.drop p) false).2.1 (countR 1 MX (l.drop p) false).2.2).1,
    takeR e (countR 1 MX (countR 1 MX (l.drop p) false).2.1 (countR 1 MX (l.drop p) false).2.2).2.1 (countR 1 MX (countR 1 MX (l.drop p) false).2.1 (countR 1 MX (l.drop p) false).2.2).2.2) := rfl
  unfold gboxR
  cases h0 : numB 1 MX (l.drop p) with
  | false =>
    rw [if_pos rfl, hb, count_no h0]
    simp only [count_w,take_w,if_true,List.length_drop]
    congr 2; omega
  | true =>
    have q0 := numB_lt h0
    rw [if_neg (by simp), hb, count_yes h0]
    simp only
    cases h1 : numB 1 MX (l.drop (p + 1)) with
    | false =>
      rw [if_pos rfl, count_no h1]
      simp only [take_w,if_true,List.length_drop]
      congr 2; omega
    | true =>
      have q1 := numB_lt h1
      rw [if_neg (by simp), count_yes h1]
      simp only
      cases h2 : signB e (l.drop (p + 2)) with
      | false =>
        rw [if_pos rfl, take_no h2]
        simp only [if_true,List.length_drop]
        congr 2; omega
      | true =>
        have q2 := signB_lt h2
        rw [if_neg (by simp), take_yes h2]
        simp only [Bool.false_eq_true,if_false,List.length_drop]
        congr 2; omega
end Go.Vc
namespace Go.Vc
theorem len0_nil {l : List Tk} (h : l.length ≤ ([] : List Tk).length) : l = [] := List.length_eq_zero_iff.1 (by simpa using h)
theorem sign_app {c : Int} {t : Tk} {l r : List Tk} : signB c (t :: l ++ r) = signB c (t :: l) := rfl
theorem num_app {a b : Int} {t : Tk} {l r : List Tk} : numB a b (t :: l ++ r) = numB a b (t :: l) := rfl
theorem nodesR_none {f : Nat} {l : List Tk} (h1 : signB 91 l = false) (h2 : signB 40 l = false) (h3 : signB 123 l = false) (h4 : signB 60 l = false) : nodesR f l = ([], l, false) := by
  cases f with
  | zero => rfl
  | succ f => rw [nodesR, if_neg (by simp [h1]), if_neg (by simp [h2]), if_neg (by simp [h3]), if_neg (by simp [h4])]
theorem nodesR_block {f : Nat} {l : List Tk} (h1 : signB 91 l = true) : nodesR (f + 1) l = (Shp.block (attrsT (fun _ => true) plainS l.tail false).1 (nodesT f (attrsT (fun _ => true) plainS l.tail false).2.1 (attrsT (fun _ => true) plainS l.tail false).2.2).1 ::
    (nodesT f (takeR 93 (nodesT f (attrsT (fun _ => true) plainS l.tail false).2.1 (attrsT (fun _ => true) plainS l.tail false).2.2).2.1 (nodesT f (attrsT (fun _ => true) plainS l.tail false).2.1 (attrsT (fun _ => true) plainS l.tail false).2.2).2.2).1 (takeR 93 (nodesT f (attrsT (fun _ => true) plainS l.tail false).2.1 (attrsT (fun _ => true) plainS l.tail false).2.2).2.1 (nodesT f (attrsT (fun _ => true) plainS l.tail false).2.1 (attrsT (fun _ => true) plainS l.tail false).2.2).2.2).2).1,
    (nodesT f (takeR 93 (nodesT f (attrsT (fun _ => true) plainS l.tail false).2.1 (attrsT (fun _ => true) plainS l.tail false).2.2).2.1 (nodesT f (attrsT (fun _ => true) plainS l.tail false).2.1 (attrsT (fun _ => true) plainS l.tail false).2.2).2.2).1 (takeR 93 (nodesT f (attrsT (fun _ => true) plainS l.tail false).2.1 (attrsT (fun _ => true) plainS l.tail false).2.2).2.1 (nodesT f (attrsT (fun _ => true) plainS l.tail false).2.1 (attrsT (fun _ => true) plainS l.tail false).2.2).2.2).2).2) := by
  rw [nodesR, if_pos h1]; rfl
theorem nodesR_text {f : Nat} {l : List Tk} (h1 : signB 91 l = false) (h2 : signB 40 l = true) : nodesR (f + 1) l = (Shp.text (textR l).1 :: (nodesT f (textR l).2.1 (textR l).2.2).1, (nodesT f (textR l).2.1 (textR l).2.2).2) := by
  rw [nodesR, if_neg (by simp [h1]), if_pos h2]; rfl
theorem nodesR_box {f : Nat} {l : List Tk} (h1 : signB 91 l = false) (h2 : signB 40 l = false) (h3 : signB 123 l = true) : nodesR (f + 1) l = (Shp.box (boxR 125 l.tail false).1 (boxR 125 l.tail false).2.1 ::
    (nodesT f (boxR 125 l.tail false).2.2.1 (boxR 125 l.tail false).2.2.2).1, (nodesT f (boxR 125 l.tail false).2.2.1 (boxR 125 l.tail false).2.2.2).2) := by
  rw [nodesR, if_neg (by simp [h1]), if_neg (by simp [h2]), if_pos h3]; rfl
theorem nodesR_float {f : Nat} {l : List Tk} (h1 : signB 91 l = false) (h2 : signB 40 l = false) (h3 : signB 123 l = false) (h4 : signB 60 l = true) : nodesR (f + 1) l = ((floatR l false).1 ::
    (nodesT f (floatR l false).2.1 (floatR l false).2.2).1, (nodesT f (floatR l false).2.1 (floatR l false).2.2).2) := by
  rw [nodesR, if_neg (by simp [h1]), if_neg (by simp [h2]), if_neg (by simp [h3]), if_pos h4]; rfl
theorem sign_cases (l : List Tk) : signB 91 l = true ∨ (signB 91 l = false ∧ signB 40 l = true) ∨ (signB 91 l = false ∧ signB 40 l = false ∧ signB 123 l = true) ∨ (signB 91 l = false ∧ signB 40 l = false ∧ signB 123 l = false ∧ signB 60 l = true) ∨
    (signB 91 l = false ∧ signB 40 l = false ∧ signB 123 l = false ∧ signB 60 l = false) := by
  cases signB 91 l <;> cases signB 40 l <;> cases signB 123 l <;> cases signB 60 l <;> simp
end Go.Vc
namespace Go.Vc
theorem take_ok {c : Int} {l r : List Tk} {w : Bool} (h : (takeR c l w).2 = false) : takeR c (l ++ r) w = ((takeR c l w).1 ++ r, false) ∧ l ≠ [] ∧ w = false := by
  unfold takeR at h ⊢
  split at h
  · cases h
  · rename_i hn
    rw [if_neg hn]
    simp only [Bool.or_eq_true,Bool.not_eq_true',not_or,Bool.not_eq_true] at hn
    obtain ⟨rfl, hs⟩ := hn
    cases l with
    | nil => simp [signB] at hs
    | cons t l =>
      have hs : signB c (t :: l) = true := by simpa using hs
      rw [if_neg (by rw [sign_app, hs]; simp)]
      exact ⟨rfl, by simp, rfl⟩
theorem count_ok {a b : Int} {l r : List Tk} {w : Bool} (h : (countR a b l w).2.2 = false) : countR a b (l ++ r) w = ((countR a b l w).1, (countR a b l w).2.1 ++ r, false) ∧ l ≠ [] ∧ w = false := by
  cases l with
  | nil => simp [countR] at h
  | cons t l =>
    rw [countR] at h ⊢
    split at h
    · cases h
    · rename_i hn
      rw [if_neg hn]
      rw [List.cons_append, countR, ← List.cons_append, num_app, if_neg hn]
      refine ⟨rfl, by simp, ?_⟩
      cases w with
      | false => rfl
      | true => simp at hn
theorem nodesT_true (f : Nat) (l : List Tk) : nodesT f l true = ([], l, true) := rfl
theorem nodesT_false (f : Nat) (l : List Tk) : nodesT f l false = nodesR f l := rfl
theorem nodes_fuel : ∀ (m : Nat) (l : List Tk) (w : Bool) (f F : Nat), l.length ≤ m → l.length ≤ f → l.length ≤ F → nodesT f l w = nodesT F l w := by
  intro m
  induction m using Nat.strongRecOn with
  | _ m ih =>
    intro l w f F hm hf hF
    cases w with
    | true => rfl
    | false =>
      rw [nodesT_false, nodesT_false]
      cases l with
      | nil => rw [nodesR_none rfl rfl rfl rfl, nodesR_none rfl rfl rfl rfl]
      | cons t l =>
        simp only [List.length_cons] at hm hf hF
        obtain ⟨f, rfl⟩ : ∃ g, f = g + 1 := ⟨f - 1, by omega⟩
        obtain ⟨F, rfl⟩ : ∃ g, F = g + 1 := ⟨F - 1, by omega⟩
        rcases sign_cases (t :: l) with q | ⟨q1, q2⟩ | ⟨q1, q2, q3⟩ | ⟨q1, q2, q3, q4⟩ | ⟨q1, q2, q3, q4⟩
        · rw [nodesR_block q, nodesR_block q]
          simp only [List.tail_cons]
          have ha1 := (attrsT_len (fun _ => true) plainS l false).2
          generalize attrsT (fun _ => true) plainS l false = a at *
          rw [ih l.length (by omega) a.2.1 a.2.2 f F (by omega) (by omega) (by omega)]
          have hn2 := nodesT_len F a.2.1 a.2.2
          generalize nodesT F a.2.1 a.2.2 = n at *
          have hc1 := takeR_len 93 n.2.1 n.2.2
          generalize takeR 93 n.2.1 n.2.2 = c at *
          rw [ih l.length (by omega) c.1 c.2 f F (by omega) (by omega) (by omega)]
        · rw [nodesR_text q1 q2, nodesR_text q1 q2]
          have ha1 := textR_len q2
          generalize textR (t :: l) = a at *
          simp only [List.length_cons] at ha1
          rw [ih l.length (by omega) a.2.1 a.2.2 f F (by omega) (by omega) (by omega)]
        · rw [nodesR_box q1 q2 q3, nodesR_box q1 q2 q3]
          simp only [List.tail_cons]
          have ha1 := boxR_len 125 l false
          generalize boxR 125 l false = a at *
          rw [ih l.length (by omega) a.2.2.1 a.2.2.2 f F (by omega) (by omega) (by omega)]
        · rw [nodesR_float q1 q2 q3 q4, nodesR_float q1 q2 q3 q4]
          have ha1 := floatR_len q4
          generalize floatR (t :: l) false = a at *
          simp only [List.length_cons] at ha1
          rw [ih l.length (by omega) a.2.1 a.2.2 f F (by omega) (by omega) (by omega)]
        · rw [nodesR_none q1 q2 q3 q4, nodesR_none q1 q2 q3 q4]
end Go.Vc
namespace Go.Vc
theorem ofI_bad_lt (s : List UInt8) : ∀ (m i : Nat) (c : Bool), s.length - i ≤ m → ∀ p, ofI s c i = .bad p → p < s.length := by
  intro m
  induction m with
  | zero => intro i c hm l h; rw [ofI_end (by omega)] at h; cases h
  | succ m ih =>
    intro i c hm l h
    by_cases hlt : i < s.length
    · by_cases hz : sizeR s i = 0
      · rw [ofI_bad hlt hz] at h; cases h; exact hlt
      · have cons : ∀ (r : Res) (t : Tk), r.cons t = .bad l → r = .bad l := fun r t hr => by
          cases r with
          | ok l' => cases hr
          | bad q => cases hr; rfl
        cases c
        · by_cases h35 : byt s i = 35
          · rw [ofI_hash hlt hz h35] at h
            exact ih _ _ (by omega) l h
          · by_cases hw : byt s i = 32 ∨ byt s i = 9 ∨ byt s i = 10
            · rw [ofI_white hlt hz hw] at h
              exact ih _ _ (by omega) l h
            · by_cases hd : 48 ≤ byt s i ∧ byt s i ≤ 57
              · have hdp := digLen_pos hd.1 hd.2
                rw [ofI_num hlt hz hd] at h
                split at h
                · cases h; exact hlt
                · exact ih _ _ (by omega) l (cons _ _ h)
              · rw [ofI_sign hlt hz (by omega)] at h
                exact ih _ _ (by omega) l (cons _ _ h)
        · rw [ofI_com hlt hz] at h
          exact ih _ _ (by omega) l h
    · rw [ofI_end hlt] at h; cases h
theorem ofI_at (s : List UInt8) : ∀ (m i : Nat) (c : Bool), s.length - i ≤ m → ∀ l, ofI s c i = .ok l → ∀ t ∈ l, (i : Int) ≤ t.at' ∧ t.at' < s.length := by
  intro m
  induction m with
  | zero => intro i c hm l h; rw [ofI_end (by omega)] at h; cases h; simp
  | succ m ih =>
    intro i c hm l h t ht
    by_cases hlt : i < s.length
    · by_cases hz : sizeR s i = 0
      · rw [ofI_bad hlt hz] at h; cases h
      · have cons : ∀ (r : Res) (t : Tk), r.cons t = .ok l → ∃ l', r = .ok l' ∧ l = t :: l' := fun r t hr => by
          cases r with
          | ok l' => exact ⟨l', rfl, by simpa [Res.cons] using hr.symm⟩
          | bad => cases hr
        cases c
        · by_cases h35 : byt s i = 35
          · rw [ofI_hash hlt hz h35] at h
            have := ih _ _ (by omega) l h t ht; omega
          · by_cases hw : byt s i = 32 ∨ byt s i = 9 ∨ byt s i = 10
            · rw [ofI_white hlt hz hw] at h
              have := ih _ _ (by omega) l h t ht; omega
            · by_cases hd : 48 ≤ byt s i ∧ byt s i ≤ 57
              · have hdp := digLen_pos hd.1 hd.2
                rw [ofI_num hlt hz hd] at h
                split at h
                · cases h
                · obtain ⟨l', h1, rfl⟩ := cons _ _ h
                  rcases List.mem_cons.1 ht with rfl | ht
                  · simp only; omega
                  · have := ih _ _ (by omega) l' h1 t ht; omega
              · rw [ofI_sign hlt hz (by omega)] at h
                obtain ⟨l', h1, rfl⟩ := cons _ _ h
                rcases List.mem_cons.1 ht with rfl | ht
                · simp only; omega
                · have := ih _ _ (by omega) l' h1 t ht; omega
        · rw [ofI_com hlt hz] at h
          have := ih _ _ (by omega) l h t ht; omega
    · rw [ofI_end hlt] at h; cases h; cases ht
theorem rest_suffix_take (c : Int) (l : List Tk) (w : Bool) : ∃ p, l = p ++ (takeR c l w).1 := by
  unfold takeR
  split
  · exact ⟨[], rfl⟩
  · cases l with
    | nil => exact ⟨[], rfl⟩
    | cons t l => exact ⟨[t], rfl⟩
theorem rest_suffix_count (a b : Int) (l : List Tk) (w : Bool) : ∃ p, l = p ++ (countR a b l w).2.1 := by
  cases l with
  | nil => exact ⟨[], rfl⟩
  | cons t l =>
    rw [countR]
    split
    · exact ⟨[], rfl⟩
    · exact ⟨[t], rfl⟩
theorem rest_suffix_nums : ∀ (l : List Tk), ∃ p, l = p ++ (numsR l).2
  | [] => ⟨[], rfl⟩
  | t :: l => by
    rw [numsR]
    split
    · obtain ⟨p, hp⟩ := rest_suffix_nums l
      exact ⟨t :: p, by rw [List.cons_append, ← hp]⟩
    · exact ⟨[], rfl⟩
theorem suf_trans {l m n : List Tk} (h1 : ∃ p, l = p ++ m) (h2 : ∃ p, m = p ++ n) : ∃ p, l = p ++ n := by
  obtain ⟨p, rfl⟩ := h1
  obtain ⟨q, rfl⟩ := h2
  exact ⟨p ++ q, by simp⟩
theorem rest_suffix_attrs : ∀ (m : Nat) (l : List Tk) (av : Int → Bool) (s : List Int) (w : Bool), l.length ≤ m → ∃ p, l = p ++ (attrsT av s l w).2.1 := by
  intro m
  induction m with
  | zero =>
    intro l av s w hm
    have h0 : l = [] := List.length_eq_zero_iff.1 (by omega)
    subst h0
    exact ⟨[], by rw [len0_nil (attrsT_len av s [] w).2]; rfl⟩
  | succ m ih =>
    intro l av s w hm
    cases w with
    | true => exact ⟨[], rfl⟩
    | false =>
      cases l with
      | nil => exact ⟨[], by rw [len0_nil (attrsT_len av s [] false).2]; rfl⟩
      | cons t l =>
        by_cases h1 : t.kind = 1
        · cases h3 : av t.sign with
          | false =>
            refine ⟨[], ?_⟩
            rw [attrsT, if_neg (by simp), attrsR, if_pos h1, h3]
            rfl
          | true =>
            cases h4 : spec t.sign with
            | none =>
              refine ⟨[], ?_⟩
              rw [attrsT, if_neg (by simp), attrsR, if_pos h1, h3]
              simp only [if_true,h4,List.nil_append]
            | some q =>
              obtain ⟨k, a, b⟩ := q
              rw [attrsT, if_neg (by simp), attrsT_step h1 h3 h4]
              have hl := count_len a b l false
              simp only [List.length_cons] at hm
              obtain ⟨p, hp⟩ := suf_trans (rest_suffix_count a b l false) (ih _ (fun c => if c = t.sign then false else av c) (s.set k (countR a b l false).1) (countR a b l false).2.2 (by omega))
              exact ⟨t :: p, by rw [List.cons_append, ← hp]⟩
        · refine ⟨[], ?_⟩
          rw [attrsT, if_neg (by simp), attrsR, if_neg h1]
          rfl
theorem tail_suffix (l : List Tk) : ∃ p, l = p ++ l.tail := by
  cases l with
  | nil => exact ⟨[], rfl⟩
  | cons t l => exact ⟨[t], rfl⟩
theorem rest_suffix_box (e : Int) (l : List Tk) (w : Bool) : ∃ p, l = p ++ (boxR e l w).2.2.1 :=
  suf_trans (rest_suffix_count 1 MX l w) (suf_trans (rest_suffix_count _ _ _ _) (rest_suffix_take e _ _))
theorem rest_suffix_text (l : List Tk) : ∃ p, l = p ++ (textR l).2.1 :=
  suf_trans (rest_suffix_take 40 l false) (suf_trans (rest_suffix_count _ _ _ _) (suf_trans (rest_suffix_count _ _ _ _) (suf_trans (rest_suffix_count _ _ _ _) (suf_trans (rest_suffix_nums _) (rest_suffix_take 41 _ _)))))
theorem rest_suffix_float (l : List Tk) : ∃ p, l = p ++ (floatR l false).2.1 :=
  suf_trans (rest_suffix_take 60 l false) (suf_trans (rest_suffix_take _ _ _) (rest_suffix_box 62 _ _))
theorem rest_suffix : ∀ (f : Nat) (l : List Tk) (w : Bool), ∃ p, l = p ++ (nodesT f l w).2.1
  | f, l, true => ⟨[], rfl⟩
  | 0, l, false => ⟨[], rfl⟩
  | f + 1, l, false => by
    rw [nodesT_false]
    rcases sign_cases l with q | ⟨q1, q2⟩ | ⟨q1, q2, q3⟩ | ⟨q1, q2, q3, q4⟩ | ⟨q1, q2, q3, q4⟩
    · rw [nodesR_block q]
      exact suf_trans (tail_suffix l) (suf_trans (rest_suffix_attrs _ _ _ _ _ (Nat.le_refl _)) (suf_trans (rest_suffix f _ _) (suf_trans (rest_suffix_take 93 _ _) (rest_suffix f _ _))))
    · rw [nodesR_text q1 q2]
      exact suf_trans (rest_suffix_text l) (rest_suffix f _ _)
    · rw [nodesR_box q1 q2 q3]
      exact suf_trans (tail_suffix l) (suf_trans (rest_suffix_box 125 _ _) (rest_suffix f _ _))
    · rw [nodesR_float q1 q2 q3 q4]
      exact suf_trans (rest_suffix_float l) (rest_suffix f _ _)
    · rw [nodesR_none q1 q2 q3 q4]
      exact ⟨[], rfl⟩
theorem readR_bad {s : List UInt8} (h : (readR s).2.2 ≠ 0) : (readR s).1 = [] ∧ (readR s).2.2 = 1 ∧ 0 ≤ (readR s).2.1 ∧ (readR s).2.1 ≤ s.length := by
  unfold readR at h ⊢
  cases hl : ofI s false 0 with
  | bad p =>
    have := ofI_bad_lt s _ 0 false (Nat.le_refl _) p hl
    exact ⟨rfl, rfl, by simp only; omega, by simp only; omega⟩
  | ok l =>
    rw [hl] at h
    simp only at h ⊢
    have hat := ofI_at s _ 0 false (Nat.le_refl _) l hl
    obtain ⟨p, hp⟩ := rest_suffix l.length l false
    rw [nodesT_false] at hp
    cases hn : (nodesR l.length l).2.1 with
    | cons t r =>
      rw [hn] at hp
      have := hat t (by rw [hp]; simp)
      simp only
      exact ⟨trivial, trivial, by omega, by omega⟩
    | nil =>
      rw [hn] at h
      simp only at h ⊢
      split
      · simp only
        exact ⟨trivial, trivial, by omega, by omega⟩
      · rename_i hw
        rw [if_neg hw] at h
        exact absurd rfl h
theorem readR_ok {s : List UInt8} (h : (readR s).2.2 = 0) : (readR s).2.1 = 0 ∧ ∃ l, ofI s false 0 = .ok l ∧ (nodesR l.length l).2 = ([], false) ∧ (readR s).1 = toldL (nodesR l.length l).1 := by
  unfold readR at h ⊢
  cases hl : ofI s false 0 with
  | bad p => rw [hl] at h; simp at h
  | ok l =>
    rw [hl] at h
    simp only at h ⊢
    cases hn : (nodesR l.length l).2.1 with
    | cons t r => rw [hn] at h; simp at h
    | nil =>
      rw [hn] at h
      simp only at h ⊢
      cases hw : (nodesR l.length l).2.2 with
      | true => rw [hw] at h; simp at h
      | false => exact ⟨rfl, l, rfl, Prod.ext hn hw, rfl⟩
end Go.Vc
namespace Go.Vc
open Go.Proofs
theorem FzL.same {σ : Store} {N : Nat → Prop} : ∀ (vs : List V), noidL vs = true → FzL σ N vs vs
  | [], _ => .nil
  | v :: vs, h => by
    simp only [noidL,Bool.and_eq_true] at h
    exact .cons _ _ _ _ (.same v h.1) (FzL.same vs h.2)
theorem FzL.app {σ : Store} {N : Nat → Prop} : ∀ {a b c d : List V}, FzL σ N a b → FzL σ N c d → FzL σ N (a ++ c) (b ++ d)
  | _, _, _, _, .nil, h => h
  | _, _, _, _, .cons v u vs us h h', h2 => .cons v u _ _ h (FzL.app h' h2)
theorem FzL.one {σ : Store} {N : Nat → Prop} {v u : V} (h : Fz σ N v u) : FzL σ N [v] [u] := .cons _ _ _ _ h .nil
theorem OutV.fz {K σ : Store} {N : Nat → Prop} {e sz : Nat} {v : V} {rows : List V} (h : OutV K σ e sz v rows) (hN : ∀ id, K id = none → N id) (hr : noidL rows = true) : Fz σ N v (.sl sz rows) := by
  rcases h with ⟨rfl, rfl⟩ | ⟨id, rfl, ho, hk⟩
  · exact .nil sz
  · exact .own id 0 rows.length ⟨e, sz, rows⟩ rows ho (hN id hk) (by simp) (by rw [List.drop_zero, List.take_length]; exact FzL.same rows hr)
theorem OutV.upd_ne {K σ : Store} {e sz : Nat} {v : V} {rows : List V} (h : OutV K σ e sz v rows) {id : Nat} {o : Ob} (hK : K id ≠ none) : OutV K (upd σ id o) e sz v rows := by
  rcases h with h | ⟨q, h1, h2, h3⟩
  · exact .inl h
  · have : q ≠ id := fun e => hK (by rw [← e]; exact h3)
    exact .inr ⟨q, h1, by rw [Vc.upd_ne this]; exact h2, h3⟩
theorem noid_ints (l : List Int) : noidL (l.map vI) = true := by
  induction l with
  | nil => rfl
  | cons x l ih => rw [List.map_cons, noidL, ih]; rfl
abbrev ndPre (x : Nd) : List V := [vI x.kind, vI x.size, vI x.st.top, vI x.st.bottom, vI x.st.padTop, vI x.st.padBottom, vI x.st.inset, vI x.st.orphans, vI x.st.widows, vI x.st.head, vI x.st.before, vI x.st.after, vI x.st.inside, vI x.st.clear, vI x.line, vI x.space]
def ndW (x : Nd) (v : V) : V := .agg [vI x.kind, vI x.size, vI x.st.top, vI x.st.bottom, vI x.st.padTop, vI x.st.padBottom, vI x.st.inset, vI x.st.orphans, vI x.st.widows, vI x.st.head, vI x.st.before, vI x.st.after, vI x.st.inside, vI x.st.clear, vI x.line, vI x.space, v, vI x.side, vI x.w, vI x.h]
theorem fz_nd {σ : Store} {N : Nat → Prop} {x : Nd} {v : V} (h : Fz σ N v (encI x.words)) : Fz σ N (ndW x v) (encN x) := by
  refine .agg _ _ ?_
  exact (FzL.same (ndPre x) rfl).app ((FzL.one h).app (FzL.same [vI x.side, vI x.w, vI x.h] rfl))
theorem retGT {K σ τ : Store} {id : Nat} {x : Nd} {p : Nat} {a : Int} {v : V} (h : SubStore σ τ) (hid : τ id = some ⟨58, 20, [ndW x v]⟩) (hn : σ id = none) (ho : OutV K τ 3 1 v (x.words.map vI)) (hK : SubStore σ K) (ha : a = (p : Int)) :
    RetV (.agg [.own id 0 1, .int .i64 a, .int .i64 0]) τ fun r σ' => r = encG ([x], p, false) ∧ σ' = σ := by
  subst ha
  refine ⟨_, σ, h, (Fz.agg _ _ (.cons _ _ _ _ (.own id 0 1 _ [encN x] hid (show σ id = none from hn) (by simp) (FzL.one (fz_nd (ho.fz (N := fun id => σ id = none) (fun id hk => hK.none hk) (noid_ints _))))) (FzL.same [vI (p : Int), vI 0] rfl)) : Fz τ (fun id => σ id = none) _ _).wk h (fun _ h => h), rfl, rfl⟩
def txtN (l : List Tk) (p : Nat) (ws : List Int) : Nd := ⟨2, 1, Sty.zero, tokN l (p + 1), tokN l (p + 2), ws, 0, 0, 0⟩
def gtextR (l : List Tk) (p : Nat) : GR :=
  if numB 1 MX (l.drop (p + 1)) = false then ([], p + 1, true)
  else if numB 0 MX (l.drop (p + 2)) = false then ([], p + 2, true)
  else if (numsR (l.drop (p + 3))).1 = [] ∨ signB 41 (l.drop (p + 3 + (numsR (l.drop (p + 3))).1.length)) = false then ([], p + 3 + (numsR (l.drop (p + 3))).1.length, true)
  else ([txtN l p (numsR (l.drop (p + 3))).1], p + 3 + (numsR (l.drop (p + 3))).1.length + 1, false)
structure XInv (K σ : Store) (id5 : Nat) (x : Nd) (v : V) : Prop where
  off : Off id5 K σ
  r5 : σ id5 = some ⟨58, 20, [ndW x v]⟩
  out : OutV K σ 3 1 v (x.words.map vI)
theorem XInv.push {K σ σ1 σ2 : Store} {id5 i2 : Nat} {x : Nd} {v : V} {n : Int} {idA : Option Nat} (inv : XInv K σ id5 x v) (hK : K id5 ≠ none) (s1 : SubStore σ σ1) (hA : ∀ i, idA = some i → K i = none ∧ ∃ o, σ i = some o)
    (s2 : SubStore (delO σ1 idA) σ2) (a2 : σ2 i2 = some ⟨3, 1, x.words.map vI ++ [vI n]⟩) (f2 : σ1 i2 = none) :
    XInv K (upd σ2 id5 ⟨58, 20, [ndW { x with words := x.words ++ [n] } (.own i2 0 (x.words.length + 1))]⟩) id5 { x with words := x.words ++ [n] } (.own i2 0 (x.words.length + 1)) where
  off := Off.upd fun q hq o ho => keepA hA s2 q o (by rw [ho]; simp) (s1 _ _ (inv.off q hq o ho))
  r5 := upd_same
  out := by
    have f : σ i2 = none := s1.none f2
    have hne : i2 ≠ id5 := fun e => by rw [e, inv.r5] at f; cases f
    refine OutV.new (by simp) (by rw [upd_ne hne, a2]; simp) ?_
    exact inv.off.none inv.r5 f
theorem xstore {σ : Store} {id5 : Nat} {x : Nd} {v w : V} {y : Nd} (h : σ id5 = some ⟨58, 20, [ndW x v]⟩) (hw : w.cells = [w]) (hs : w.stays = true) (hy : ndW y w = ndW x w) : storeS σ 1 (.ptr id5 0 16) w = some (upd σ id5 ⟨58, 20, [ndW y w]⟩) := by
  rw [hy]
  simp only [storeS,h,List.getElem?_cons_zero,ndW]
  have : setRowV (.agg [vI x.kind, vI x.size, vI x.st.top, vI x.st.bottom, vI x.st.padTop, vI x.st.padBottom, vI x.st.inset, vI x.st.orphans, vI x.st.widows, vI x.st.head, vI x.st.before, vI x.st.after, vI x.st.inside, vI x.st.clear, vI x.line, vI x.space, v, vI x.side, vI x.w, vI x.h]) 16 1 w =
      some (.agg [vI x.kind, vI x.size, vI x.st.top, vI x.st.bottom, vI x.st.padTop, vI x.st.padBottom, vI x.st.inset, vI x.st.orphans, vI x.st.widows, vI x.st.head, vI x.st.before, vI x.st.after, vI x.st.inside, vI x.st.clear, vI x.line, vI x.space, w, vI x.side, vI x.w, vI x.h]) := by
    unfold setRowV
    rw [if_pos ⟨by rw [hw]; rfl, hs⟩, if_neg (by simp), if_pos (by simp [V.cells])]
    rw [hw]
    rfl
  rw [this]
  rfl
theorem xload {σ : Store} {id5 : Nat} {x : Nd} {v : V} (h : σ id5 = some ⟨58, 20, [ndW x v]⟩) : loadV σ false 1 (.ptr id5 0 16) = some v := by
  simp [loadV, h, ndW, V.cells]
theorem xall {σ : Store} {id5 : Nat} {x : Nd} {v : V} (h : σ id5 = some ⟨58, 20, [ndW x v]⟩) : loadV σ true 20 (.ptr id5 0 0) = some (ndW x v) := by
  simp [loadV, h, ndW, V.cells]
theorem ndW_cells (x : Nd) (v : V) : (ndW x v).cells.length = 20 := rfl
theorem ndW_stays (x : Nd) (v : V) : (ndW x v).stays = true := rfl
set_option maxRecDepth 100000 in
theorem gtext_c (l : List Tk) (p : Nat) (hp : p ≤ 1000000) (hl : l.length ≤ 1000000) : PFun Tryz.prog 62 [encL l, vI p] (encG (gtextR l p)) := fun σ => by
  refine Contract.of_runs Tryz.func62 e62 k62 (by simp [c62]) ?_
  refine Runs.mix 7 ?_
  have hi1 : inR .i64 ((p : Int) + 1) := inR_i64 (by omega) (by omega)
  have hi2 : inR .i64 ((p : Int) + 2) := inR_i64 (by omega) (by omega)
  have hi3 : inR .i64 ((p : Int) + 3) := inR_i64 (by omega) (by omega)
  have e1 : (p : Int) + 1 = ((p + 1 : Nat) : Int) := by omega
  have e2 : (p : Int) + 2 = ((p + 2 : Nat) : Int) := by omega
  have e3 : (p : Int) + 3 = ((p + 3 : Nat) : Int) := by omega
  (refine Runs.of_step Orc.nothing 300 ?_; simp -implicitDefEqProofs only [BB,seval,← decide_not,okind,vpre,vpure,intBin,intPre,strBin,strPre,popTo,argSlots,fldV,fldAV,subCells,idxVV,idxAAV,idxSV,sliceV,sliceSV,boundV,szIs,storeOp,storeS,setRowV,eff,extV,buildV,splice,eqSV,fitsL,eqCells,eqCell,minmaxV,capV,binBV,nilCheckV,bytesV,V.cells,V.stays,Orc.nothing,c62])
  refine effR_new fun id4 σ4 s4 a4 f4 => ?_
  simp -implicitDefEqProofs only [BB,seval,← decide_not,okind,vpre,vpure,intBin,intPre,strBin,strPre,popTo,argSlots,fldV,fldAV,subCells,idxVV,idxAAV,idxSV,sliceV,sliceSV,boundV,szIs,storeOp,storeS,setRowV,eff,extV,buildV,splice,eqSV,fitsL,eqCells,eqCell,minmaxV,capV,binBV,nilCheckV,bytesV,V.cells,V.stays,hi1]
  refine Runs.pcall rfl rfl rfl (gmost_c _) ?_
  rw [e1]
  (refine Runs.of_step Orc.nothing 300 ?_; simp -implicitDefEqProofs only [BB,seval,effR_some,effD_some,← decide_not,okind,vpre,vpure,intBin,intPre,strBin,strPre,popTo,argSlots,fldV,fldAV,subCells,idxVV,idxAAV,idxSV,sliceV,sliceSV,boundV,szIs,storeOp,storeS,setRowV,eff,extV,buildV,splice,eqSV,fitsL,eqCells,eqCell,minmaxV,capV,binBV,nilCheckV,bytesV,V.cells,V.stays,Orc.nothing])
  refine Runs.pcall rfl rfl rfl (gnum_c l (p + 1) 1 MX _) ?_
  cases h1 : numB 1 MX (l.drop (p + 1)) with
  | false =>
    have hr : gtextR l p = ([], p + 1, true) := by rw [gtextR, if_pos h1]
    rw [hr]
    (refine Runs.of_step Orc.nothing 300 ?_; simp -implicitDefEqProofs only [BB,seval,effR_some,effD_some,← decide_not,okind,vpre,vpure,intBin,intPre,strBin,strPre,popTo,argSlots,fldV,fldAV,subCells,idxVV,idxAAV,idxSV,sliceV,sliceSV,boundV,szIs,storeOp,storeS,setRowV,eff,extV,buildV,splice,eqSV,fitsL,eqCells,eqCell,minmaxV,capV,binBV,nilCheckV,bytesV,V.cells,V.stays,Orc.nothing,hi1,a4])
    rw [e1]
    exact retG (s4.updK f4)
  | true =>
    (refine Runs.of_step Orc.nothing 300 ?_; simp -implicitDefEqProofs only [BB,seval,effR_some,effD_some,← decide_not,okind,vpre,vpure,intBin,intPre,strBin,strPre,popTo,argSlots,fldV,fldAV,subCells,idxVV,idxAAV,idxSV,sliceV,sliceSV,boundV,szIs,storeOp,storeS,setRowV,eff,extV,buildV,splice,eqSV,fitsL,eqCells,eqCell,minmaxV,capV,binBV,nilCheckV,bytesV,V.cells,V.stays,Orc.nothing,hi2])
    refine Runs.pcall rfl rfl rfl (gmost_c _) ?_
    rw [e2]
    (refine Runs.of_step Orc.nothing 300 ?_; simp -implicitDefEqProofs only [BB,seval,effR_some,effD_some,← decide_not,okind,vpre,vpure,intBin,intPre,strBin,strPre,popTo,argSlots,fldV,fldAV,subCells,idxVV,idxAAV,idxSV,sliceV,sliceSV,boundV,szIs,storeOp,storeS,setRowV,eff,extV,buildV,splice,eqSV,fitsL,eqCells,eqCell,minmaxV,capV,binBV,nilCheckV,bytesV,V.cells,V.stays,Orc.nothing])
    refine Runs.pcall rfl rfl rfl (gnum_c l (p + 2) 0 MX _) ?_
    cases h2 : numB 0 MX (l.drop (p + 2)) with
    | false =>
      have hr : gtextR l p = ([], p + 2, true) := by rw [gtextR, if_neg (by simp [h1]), if_pos h2]
      rw [hr]
      (refine Runs.of_step Orc.nothing 300 ?_; simp -implicitDefEqProofs only [BB,seval,effR_some,effD_some,← decide_not,okind,vpre,vpure,intBin,intPre,strBin,strPre,popTo,argSlots,fldV,fldAV,subCells,idxVV,idxAAV,idxSV,sliceV,sliceSV,boundV,szIs,storeOp,storeS,setRowV,eff,extV,buildV,splice,eqSV,fitsL,eqCells,eqCell,minmaxV,capV,binBV,nilCheckV,bytesV,V.cells,V.stays,Orc.nothing,hi2,a4])
      rw [e2]
      exact retG (s4.updK f4)
    | true =>
      have q1 := numB_lt h1
      have q2 := numB_lt h2
      have hx1 := fun σ => idxT σ q1
      have hx2 := fun σ => idxT σ q2
      rw [← e1] at hx1
      rw [← e2] at hx2
      have t1 : tokN l (p + 1) = l[p + 1].n := by simp [tokN, q1]
      have t2 : tokN l (p + 2) = l[p + 2].n := by simp [tokN, q2]
      (refine Runs.of_step Orc.nothing 300 ?_; simp -implicitDefEqProofs only [BB,seval,← decide_not,okind,vpre,vpure,intBin,intPre,strBin,strPre,popTo,argSlots,fldV,fldAV,subCells,idxVV,idxAAV,idxSV,sliceV,sliceSV,boundV,szIs,storeOp,storeS,setRowV,eff,extV,buildV,splice,eqSV,fitsL,eqCells,eqCell,minmaxV,capV,binBV,nilCheckV,bytesV,V.cells,V.stays,Orc.nothing,hi1,hi2,hx1,hx2])
      refine effD_new fun id5 σ5 s5 a5 f5 => ?_
      simp -implicitDefEqProofs only [BB,seval,← decide_not,okind,vpre,vpure,intBin,intPre,strBin,strPre,popTo,argSlots,fldV,fldAV,subCells,idxVV,idxAAV,idxSV,sliceV,sliceSV,boundV,szIs,storeOp,storeS,setRowV,eff,extV,buildV,splice,eqSV,fitsL,eqCells,eqCell,minmaxV,capV,binBV,nilCheckV,bytesV,V.cells,V.stays,hi3,a5]
      have hsub5 : SubStore σ (upd σ5 id5 ⟨58, 20, [ndW (txtN l p []) .nils]⟩) := (s4.trans s5).updK (s4.none f5)
      have hK5 : upd σ5 id5 ⟨58, 20, [ndW (txtN l p []) .nils]⟩ id5 ≠ none := by rw [upd_same]; simp
      have b4 : upd σ5 id5 ⟨58, 20, [ndW (txtN l p []) .nils]⟩ id4 = some ⟨68, 3, [.agg [.nils, vI 0, vI 0]]⟩ := by rw [upd_ne (ne_new a4 f5)]; exact s5 _ _ a4
      have n45 : id4 ≠ id5 := ne_new a4 f5
      have inv0 : XInv (upd σ5 id5 ⟨58, 20, [ndW (txtN l p []) .nils]⟩) (upd σ5 id5 ⟨58, 20, [ndW (txtN l p []) .nils]⟩) id5 (txtN l p []) .nils := ⟨Off.refl _ _, upd_same, OutV.start⟩
      have hσe : upd σ5 id5 ⟨58, 20, [.agg [.int .i64 2, .int .i64 1, .int .i64 0, .int .i64 0, .int .i64 0, .int .i64 0, .int .i64 0, .int .i64 0, .int .i64 0, .int .i64 0, .int .i64 0, .int .i64 0, .int .i64 0, .int .i64 0, vI l[p + 1].n, vI l[p + 2].n, .nils, .int .i64 0, .int .i64 0, .int .i64 0]]⟩ = upd σ5 id5 ⟨58, 20, [ndW (txtN l p []) .nils]⟩ := by
        rw [← t1, ← t2]; rfl
      rw [hσe]
      clear hσe
      generalize upd σ5 id5 ⟨58, 20, [ndW (txtN l p []) .nils]⟩ = K at *
      refine Runs.loop (fun m st => ∃ ws : List Int, m = (l.drop (p + 3 + ws.length)).length ∧ ((numsR (l.drop (p + 3))).1 = ws ++ (numsR (l.drop (p + 3 + ws.length))).1) ∧ p + 3 + ws.length ≤ max (p + 3) l.length ∧
        (∃ v, XInv K st.σ id5 (txtN l p ws) v) ∧ st.s 0 = encL l ∧ st.s 1 = vI p ∧ st.s 4 = .ptr id4 0 0 ∧ st.s 5 = .ptr id5 0 0 ∧ st.s 6 = vI ((p + 3 + ws.length : Nat) : Int)) (l.drop (p + 3)).length
        ⟨[], rfl, rfl, by simp only [List.length_nil]; omega, ⟨_, inv0⟩, rfl, rfl, rfl, rfl, by show V.int .i64 _ = V.int .i64 _; congr 1⟩ ?_
      rintro m ⟨S, σc⟩ ⟨ws, rfl, hws, hbd, ⟨v, inv⟩, p0, p1, p4, p5, p6⟩
      simp only at inv p0 p1 p4 p5 p6
      refine Runs.mix 7 ?_
      (refine Runs.of_step Orc.nothing 300 ?_; simp -implicitDefEqProofs only [BB,seval,effR_some,effD_some,← decide_not,okind,vpre,vpure,intBin,intPre,strBin,strPre,popTo,argSlots,fldV,fldAV,subCells,idxVV,idxAAV,idxSV,sliceV,sliceSV,boundV,szIs,storeOp,storeS,setRowV,eff,extV,buildV,splice,eqSV,fitsL,eqCells,eqCell,minmaxV,capV,binBV,nilCheckV,bytesV,V.cells,V.stays,Orc.nothing,p0,p1,p4,p5,p6])
      refine Runs.pcall rfl rfl rfl (gmost_c _) ?_
      (refine Runs.of_step Orc.nothing 300 ?_; simp -implicitDefEqProofs only [BB,seval,effR_some,effD_some,← decide_not,okind,vpre,vpure,intBin,intPre,strBin,strPre,popTo,argSlots,fldV,fldAV,subCells,idxVV,idxAAV,idxSV,sliceV,sliceSV,boundV,szIs,storeOp,storeS,setRowV,eff,extV,buildV,splice,eqSV,fitsL,eqCells,eqCell,minmaxV,capV,binBV,nilCheckV,bytesV,V.cells,V.stays,Orc.nothing])
      refine Runs.pcall rfl rfl rfl (gnum_c l _ 1 MX _) ?_
      have r5 := inv.r5
      have hout := inv.out
      have hv1 := fun σx (s : SubStore σc σx) => xload (s _ _ r5)
      cases hn : numB 1 MX (l.drop (p + 3 + ws.length)) with
      | true =>
        have qk := numB_lt hn
        have hxk := fun σ => idxT σ qk
        have hdk := List.drop_eq_getElem_cons qk
        have hin : inR .i64 (((p + 3 + ws.length : Nat) : Int) + 1) := inR_i64 (by omega) (by omega)
        have hnr : numsR (l.drop (p + 3 + ws.length)) = (l[p + 3 + ws.length].n :: (numsR (l.drop (p + 3 + ws.length + 1))).1, (numsR (l.drop (p + 3 + ws.length + 1))).2) := by
          rw [hdk] at hn ⊢
          rw [numsR, if_pos hn]
        generalize l[p + 3 + ws.length] = t at *
        have hv0 := hv1 _ (SubStore.refl _)
        (refine Runs.of_step Orc.nothing 300 ?_; simp -implicitDefEqProofs only [BB,seval,← decide_not,okind,vpre,vpure,intBin,intPre,strBin,strPre,popTo,argSlots,fldV,fldAV,subCells,idxVV,idxAAV,idxSV,sliceV,sliceSV,boundV,szIs,storeOp,storeS,setRowV,eff,extV,buildV,splice,eqSV,fitsL,eqCells,eqCell,minmaxV,capV,binBV,nilCheckV,bytesV,V.cells,V.stays,Orc.nothing,p0,p5,p6,hxk,hv0])
        refine effD_new fun id51 σ51 s51 a51 f51 => ?_
        obtain ⟨idA, hda, hdA⟩ := hout.dst' s51
        have hwl : (txtN l p ws).words.length = ws.length := rfl
        have hbw : (ws.length + 1) * 9 ≤ 140737488355328 := by omega
        simp -implicitDefEqProofs only [BB,seval,← decide_not,okind,vpre,vpure,intBin,intPre,strBin,strPre,popTo,argSlots,fldV,fldAV,subCells,idxVV,idxAAV,idxSV,sliceV,sliceSV,boundV,szIs,storeOp,storeS,setRowV,eff,extV,buildV,splice,eqSV,fitsL,eqCells,eqCell,minmaxV,capV,binBV,nilCheckV,bytesV,V.cells,V.stays,hda,srcOne a51,List.length_map,hwl,hbw]
        refine effD_put fun id52 σ52 s52 a52 f52 => ?_
        have a52' : σ52 id52 = some ⟨3, 1, (txtN l p ws).words.map vI ++ [vI t.n]⟩ := a52
        have r52 : σ52 id5 = some ⟨58, 20, [ndW (txtN l p ws) v]⟩ := keepA hdA s52 id5 _ hK5 (s51 _ _ r5)
        have hst := xstore (y := txtN l p (ws ++ [t.n])) (w := .own id52 0 (ws.length + 1)) r52 rfl rfl rfl
        simp -implicitDefEqProofs only [BB,seval,← decide_not,okind,vpre,vpure,intBin,intPre,strBin,strPre,popTo,argSlots,fldV,fldAV,subCells,idxVV,idxAAV,idxSV,sliceV,sliceSV,boundV,szIs,storeOp,setRowV,eff,extV,buildV,splice,eqSV,fitsL,eqCells,eqCell,minmaxV,capV,binBV,nilCheckV,bytesV,V.cells,V.stays,p5,p6,hst,hin]
        have hpush := inv.push hK5 s51 hdA s52 a52' f52
        refine ⟨(l.drop (p + 3 + (ws.length + 1))).length, by simp only [List.length_drop]; omega, ws ++ [t.n], by simp, ?_⟩
        refine ⟨by rw [hws, hnr]; simp [Nat.add_assoc], by simp only [List.length_append,List.length_cons,List.length_nil]; omega, ⟨_, hpush⟩, p0, p1, p4, ?_⟩
        show V.int .i64 _ = V.int .i64 _
        congr 1
        simp only [List.length_append,List.length_cons,List.length_nil]; omega
      | false =>
        have hws' : (numsR (l.drop (p + 3))).1 = ws := by rw [hws, numsR_no hn, List.append_nil]
        have hv0 := hv1 _ (SubStore.refl _)
        have hlen := hout.len
        have hwl : (((txtN l p ws).words.map vI).length : Int) = (ws.length : Int) := by rw [List.length_map]; rfl
        rw [hwl] at hlen
        have hs4 : σc id4 = some ⟨68, 3, [.agg [.nils, vI 0, vI 0]]⟩ := inv.off id4 n45 _ b4
        have hsubc : SubStore σ σc := fun q o ho => inv.off q (ne_new ho (s4.none f5)) _ (hsub5 _ _ ho)
        cases ws with
        | nil =>
          have hr : gtextR l p = ([], p + 3, true) := by
            rw [gtextR, if_neg (by simp [h1]), if_neg (by simp [h2]), if_pos (.inl hws'), hws']; rfl
          rw [hr]
          have hlen0 : lenV false v = some (.int .i64 0) := hlen
          have e4 : ((p + 3 + ([] : List Int).length : Nat) : Int) = ((p + 3 : Nat) : Int) := rfl
          rw [e4] at p6 ⊢
          (refine Runs.of_step Orc.nothing 300 ?_; simp -implicitDefEqProofs only [BB,seval,effR_some,effD_some,← decide_not,okind,vpre,vpure,intBin,intPre,strBin,strPre,popTo,argSlots,fldV,fldAV,subCells,idxVV,idxAAV,idxSV,sliceV,sliceSV,boundV,szIs,storeOp,storeS,setRowV,eff,extV,buildV,splice,eqSV,fitsL,eqCells,eqCell,minmaxV,capV,binBV,nilCheckV,bytesV,V.cells,V.stays,Orc.nothing,p0,p1,p4,p5,p6,hv0,hlen0,hs4])
          exact retG (hsubc.updK f4)
        | cons w ws =>
          have hnz : (((ws.length + 1 : Nat) : Int) = 0) = False := by simp; omega
          have hp6 : p + 3 + (w :: ws).length ≤ 2000000 := by omega
          generalize hk : p + 3 + (w :: ws).length = kk at *
          clear hws hbd
          (refine Runs.of_step Orc.nothing 300 ?_; simp -implicitDefEqProofs only [BB,seval,← decide_not,okind,vpre,vpure,intBin,intPre,strBin,strPre,popTo,argSlots,fldV,fldAV,subCells,idxVV,idxAAV,idxSV,sliceV,sliceSV,boundV,szIs,storeOp,storeS,setRowV,eff,extV,buildV,splice,eqSV,fitsL,eqCells,eqCell,minmaxV,capV,binBV,nilCheckV,bytesV,V.cells,V.stays,Orc.nothing,p0,p1,p4,p5,p6,hv0,hlen,hnz])
          refine Runs.pcall rfl rfl rfl (gsign_c l kk 41 _) ?_
          cases hs : signB 41 (l.drop kk) with
          | false =>
            have hr : gtextR l p = ([], kk, true) := by
              rw [gtextR, if_neg (by simp [h1]), if_neg (by simp [h2]), hws', hk, if_pos (.inr hs)]
            rw [hr]
            (refine Runs.of_step Orc.nothing 300 ?_; simp -implicitDefEqProofs only [BB,seval,effR_some,effD_some,← decide_not,okind,vpre,vpure,intBin,intPre,strBin,strPre,popTo,argSlots,fldV,fldAV,subCells,idxVV,idxAAV,idxSV,sliceV,sliceSV,boundV,szIs,storeOp,storeS,setRowV,eff,extV,buildV,splice,eqSV,fitsL,eqCells,eqCell,minmaxV,capV,binBV,nilCheckV,bytesV,V.cells,V.stays,Orc.nothing,p0,p1,p4,p5,p6,hs4])
            exact retG (hsubc.updK f4)
          | true =>
            have hr : gtextR l p = ([txtN l p (w :: ws)], kk + 1, false) := by
              rw [gtextR, if_neg (by simp [h1]), if_neg (by simp [h2]), hws', hk, if_neg (by simp [hs])]
            rw [hr]
            have hv2 := xall r5
            have hin : inR .i64 ((kk : Int) + 1) := inR_i64 (by omega) (by omega)
            (refine Runs.of_step Orc.nothing 300 ?_; simp -implicitDefEqProofs only [BB,seval,← decide_not,okind,vpre,vpure,intBin,intPre,strBin,strPre,popTo,argSlots,fldV,fldAV,subCells,idxVV,idxAAV,idxSV,sliceV,sliceSV,boundV,szIs,storeOp,storeS,setRowV,eff,extV,buildV,splice,eqSV,fitsL,eqCells,eqCell,minmaxV,capV,binBV,nilCheckV,bytesV,Orc.nothing,p0,p1,p4,p5,p6,hv2,ndW_cells,ndW_stays])
            refine effR_new fun id69 σ69 s69 a69 f69 => ?_
            have g4 := s69 _ _ hs4
            simp -implicitDefEqProofs only [BB,seval,← decide_not,okind,vpre,vpure,intBin,intPre,strBin,strPre,popTo,argSlots,fldV,fldAV,subCells,idxVV,idxAAV,idxSV,sliceV,sliceSV,boundV,szIs,storeOp,storeS,setRowV,eff,extV,buildV,splice,eqSV,fitsL,eqCells,eqCell,minmaxV,capV,binBV,nilCheckV,bytesV,V.cells,V.stays,p4,p6,hin,g4]
            have g69 : σc id69 = none := f69
            have n69 : id69 ≠ id4 := fun e => by rw [e, hs4] at g69; cases g69
            exact retGT (K := K) (x := txtN l p (w :: ws)) ((hsubc.trans s69).updK f4) (by rw [upd_ne n69]; exact a69) (hsubc.none f69) ((hout.mono s69).upd_ne (by rw [b4]; simp)) hsub5 (by omega)
end Go.Vc
namespace Go.Vc
def toG (L : Nat) (xs : List Nd) (r : RS) : GR := if r.2 then ([], L - r.1.length, true) else (xs, L - r.1.length, false)
theorem toG_at {l : List Tk} {xs : List Nd} {q : Nat} (h : q ≤ l.length) : toG l.length xs (l.drop q, false) = (xs, q, false) := by
  simp only [toG,Bool.false_eq_true,if_false,List.length_drop]; congr 2; omega
theorem toG_bad {l : List Tk} {xs : List Nd} {q : Nat} (h : q ≤ l.length) : toG l.length xs (l.drop q, true) = ([], q, true) := by
  simp only [toG,if_true,List.length_drop]; congr 2; omega
theorem gbox_toG (l : List Tk) (p : Nat) (x : Nd) (e : Int) (hp : p ≤ l.length) : gboxR l p x e = toG l.length [{ x with w := (boxR e (l.drop p) false).1, h := (boxR e (l.drop p) false).2.1 }] (boxR e (l.drop p) false).2.2 := by
  rw [gbox_eq l p x e hp]; rfl
theorem nums_drop (l : List Tk) : ∀ (m k : Nat), l.length - k ≤ m → (numsR (l.drop k)).2 = l.drop (k + (numsR (l.drop k)).1.length) ∧ k + (numsR (l.drop k)).1.length ≤ max k l.length
  | m, k, h => by
    by_cases hk : k < l.length
    · rw [List.drop_eq_getElem_cons hk, numsR]
      split
      · cases m with
        | zero => omega
        | succ m =>
          have ih := nums_drop l m (k + 1) (by omega)
          simp only [List.length_cons]
          rw [show k + ((numsR (l.drop (k + 1))).1.length + 1) = k + 1 + (numsR (l.drop (k + 1))).1.length by omega]
          exact ⟨ih.1, by omega⟩
      · simp only [List.length_nil,Nat.add_zero]
        exact ⟨(List.drop_eq_getElem_cons hk).symm, by omega⟩
    · rw [List.drop_eq_nil_of_le (by omega)]
      simp only [numsR,List.length_nil,Nat.add_zero]
      exact ⟨(List.drop_eq_nil_of_le (by omega)).symm, by omega⟩
theorem gtext_eq (l : List Tk) (p : Nat) (hs : signB 40 (l.drop p) = true) : gtextR l p = toG l.length [ndS (.text (textR (l.drop p)).1)] (textR (l.drop p)).2 := by
  have hp := signB_lt hs
  have ht : textR (l.drop p) = ([(countR 1 MX (l.drop (p + 1)) false).1, (countR 0 MX (countR 1 MX (l.drop (p + 1)) false).2.1 (countR 1 MX (l.drop (p + 1)) false).2.2).1,
      (countR 1 MX (countR 0 MX (countR 1 MX (l.drop (p + 1)) false).2.1 (countR 1 MX (l.drop (p + 1)) false).2.2).2.1 (countR 0 MX (countR 1 MX (l.drop (p + 1)) false).2.1 (countR 1 MX (l.drop (p + 1)) false).2.2).2.2).1] ++
      (numsR (countR 1 MX (countR 0 MX (countR 1 MX (l.drop (p + 1)) false).2.1 (countR 1 MX (l.drop (p + 1)) false).2.2).2.1 (countR 0 MX (countR 1 MX (l.drop (p + 1)) false).2.1 (countR 1 MX (l.drop (p + 1)) false).2.2).2.2).2.1).1,
      takeR 41 (numsR (countR 1 MX (countR 0 MX (countR 1 MX (l.drop (p + 1)) false).2.1 (countR 1 MX (l.drop (p + 1)) false).2.2).2.1 (countR 0 MX (countR 1 MX (l.drop (p + 1)) false).2.1 (countR 1 MX (l.drop (p + 1)) false).2.2).2.2).2.1).2
      (countR 1 MX (countR 0 MX (countR 1 MX (l.drop (p + 1)) false).2.1 (countR 1 MX (l.drop (p + 1)) false).2.2).2.1 (countR 0 MX (countR 1 MX (l.drop (p + 1)) false).2.1 (countR 1 MX (l.drop (p + 1)) false).2.2).2.2).2.2) := by
    unfold textR
    simp only [take_yes hs]
  rw [ht]
  clear ht
  unfold gtextR
  cases h1 : numB 1 MX (l.drop (p + 1)) with
  | false =>
    rw [if_pos rfl, count_no h1]
    simp only [count_w,take_w]
    rw [numsR_no h1, toG_bad (by omega)]
  | true =>
    have q1 := numB_lt h1
    rw [if_neg (by simp), count_yes h1]
    simp only
    cases h2 : numB 0 MX (l.drop (p + 2)) with
    | false =>
      rw [if_pos rfl, count_no h2]
      simp only [count_w,take_w]
      rw [numsR_no (numB_weak h2), toG_bad (by omega)]
    | true =>
      have q2 := numB_lt h2
      rw [if_neg (by simp), count_yes h2]
      simp only
      cases h3 : numB 1 MX (l.drop (p + 3)) with
      | false =>
        rw [numsR_no h3, if_pos (.inl rfl), count_no h3]
        simp only [take_w,List.length_nil,Nat.add_zero]
        rw [numsR_no h3, toG_bad (by omega)]
      | true =>
        have q3 := numB_lt h3
        have hn : numsR (l.drop (p + 3)) = (tokN l (p + 3) :: (numsR (l.drop (p + 4))).1, (numsR (l.drop (p + 4))).2) := by
          have t3 : tokN l (p + 3) = l[p + 3].n := by simp [tokN, q3]
          rw [t3]
          rw [List.drop_eq_getElem_cons q3] at h3 ⊢
          rw [numsR, if_pos h3]
        rw [count_yes h3]
        simp only
        have hd := nums_drop l l.length (p + 4) (by omega)
        rw [hn]
        generalize numsR (l.drop (p + 4)) = ws at *
        simp only [List.length_cons,reduceCtorEq,false_or]
        rw [hd.1, show p + 3 + (ws.1.length + 1) = p + 4 + ws.1.length by omega]
        cases h4 : signB 41 (l.drop (p + 4 + ws.1.length)) with
        | false =>
          rw [if_pos rfl, take_no h4, toG_bad (by omega)]
        | true =>
          have q4 := signB_lt h4
          rw [if_neg (by simp), take_yes h4, toG_at (by omega)]
          rfl
def avT (told : List UInt8) (c : Int) : Bool := !(told.any fun b => decide ((b.toNat : Int) = c))
theorem avT_nil : avT [] = fun _ => true := rfl
theorem avT_snoc (told : List UInt8) (b : UInt8) : avT (told ++ [b]) = fun c => if c = (b.toNat : Int) then false else avT told c := by
  funext c
  unfold avT
  rw [List.any_append]
  by_cases h : c = (b.toNat : Int)
  · subst h; simp
  · simp [h, Ne.symm h]
theorem has_av (told : List UInt8) (c : UInt8) : told.contains c = !avT told (c.toNat : Int) := by
  rw [Bool.eq_iff_iff, List.contains_iff_mem]
  simp only [avT,Bool.not_not,List.any_eq_true,decide_eq_true_eq]
  constructor
  · intro h; exact ⟨c, h, rfl⟩
  · rintro ⟨b, h, e⟩
    have : b = c := UInt8.toNat_inj.1 (by omega)
    rw [← this]; exact h
theorem letF_none (told : List UInt8) (l : List Tk) : ∀ (cs : List UInt8), (∀ c ∈ cs, signB (c.toNat : Int) l = false) → letF told l cs = 0
  | [], _ => rfl
  | c :: cs, h => by
    rw [letF, h c (by simp), if_neg (by simp)]
    exact letF_none told l cs fun d hd => h d (by simp [hd])
theorem letF_at (told : List UInt8) (t : Tk) (r : List Tk) (h1 : t.kind = 1) : ∀ (cs : List UInt8) (c : UInt8), c ∈ cs → t.sign = (c.toNat : Int) → letF told (t :: r) cs = if avT told t.sign then t.sign else 0
  | [], _, hc, _ => by cases hc
  | d :: cs, c, hc, hs => by
    rw [letF]
    by_cases hd : d = c
    · subst hd
      have : signB (d.toNat : Int) (t :: r) = true := by simp [signB, h1, hs]
      rw [if_pos this, has_av, hs]
      cases avT told (d.toNat : Int) <;> rfl
    · have : signB (d.toNat : Int) (t :: r) = false := by
        simp only [signB,h1,decide_true,Bool.true_and,decide_eq_false_iff_not]
        intro e
        exact hd (UInt8.toNat_inj.1 (by omega))
      rw [this, if_neg (by simp)]
      refine letF_at told t r h1 cs c ?_ hs
      rcases List.mem_cons.1 hc with e | e
      · exact absurd e.symm hd
      · exact e
theorem spec_none {c : Int} (h : spec c = none) : ∀ b ∈ lettersB, c ≠ (b.toNat : Int) := by
  intro b hb e
  have hb : b = 109 ∨ b = 110 ∨ b = 112 ∨ b = 113 ∨ b = 105 ∨ b = 111 ∨ b = 119 ∨ b = 104 ∨ b = 66 ∨ b = 65 ∨ b = 73 ∨ b = 99 := by simpa [lettersB] using hb
  rcases hb with rfl | rfl | rfl | rfl | rfl | rfl | rfl | rfl | rfl | rfl | rfl | rfl <;> subst e <;> cases h
theorem spec_some {c : Int} {q : Nat × Int × Int} (h : spec c = some q) : (∃ b ∈ lettersB, c = (b.toNat : Int)) ∧ limR c = (q.2.1, q.2.2) := by
  have ex : ∀ b : UInt8, b ∈ lettersB → spec (b.toNat : Int) = some q → c = (b.toNat : Int) → limR (b.toNat : Int) = (q.2.1, q.2.2) → (∃ b ∈ lettersB, c = (b.toNat : Int)) ∧ limR c = (q.2.1, q.2.2) := fun b hb _ e hl => ⟨⟨b, hb, e⟩, by rw [e]; exact hl⟩
  by_cases h0 : c = 99
  · subst h0; refine ex 99 (by decide) h rfl ?_; cases h; rfl
  by_cases h1 : c = 73
  · subst h1; refine ex 73 (by decide) h rfl ?_; cases h; rfl
  by_cases h2 : c = 65
  · subst h2; refine ex 65 (by decide) h rfl ?_; cases h; rfl
  by_cases h3 : c = 66
  · subst h3; refine ex 66 (by decide) h rfl ?_; cases h; rfl
  by_cases h4 : c = 104
  · subst h4; refine ex 104 (by decide) h rfl ?_; cases h; rfl
  by_cases h5 : c = 119
  · subst h5; refine ex 119 (by decide) h rfl ?_; cases h; rfl
  by_cases h6 : c = 111
  · subst h6; refine ex 111 (by decide) h rfl ?_; cases h; rfl
  by_cases h7 : c = 105
  · subst h7; refine ex 105 (by decide) h rfl ?_; cases h; rfl
  by_cases h8 : c = 113
  · subst h8; refine ex 113 (by decide) h rfl ?_; cases h; rfl
  by_cases h9 : c = 112
  · subst h9; refine ex 112 (by decide) h rfl ?_; cases h; rfl
  by_cases h10 : c = 110
  · subst h10; refine ex 110 (by decide) h rfl ?_; cases h; rfl
  by_cases h11 : c = 109
  · subst h11; refine ex 109 (by decide) h rfl ?_; cases h; rfl
  exfalso
  rw [spec, if_neg h0, if_neg h1, if_neg h2, if_neg h3, if_neg h4, if_neg h5, if_neg h6, if_neg h7, if_neg h8, if_neg h9, if_neg h10, if_neg h11] at h
  cases h
theorem letter_is (told : List UInt8) (l : List Tk) : (letterR told l = 0 ∧ ∀ s, attrsT (avT told) s l false = (s, l, false)) ∨
    ∃ (t : Tk) (r : List Tk) (b : UInt8) (q : Nat × Int × Int), l = t :: r ∧ letterR told l = (b.toNat : Int) ∧ t.kind = 1 ∧ t.sign = (b.toNat : Int) ∧ avT told t.sign = true ∧ spec t.sign = some q ∧ (b.toNat : Int) ≠ 0 := by
  cases l with
  | nil => exact .inl ⟨letF_none told [] _ fun _ _ => rfl, fun s => rfl⟩
  | cons t r =>
    by_cases h1 : t.kind = 1
    · cases h2 : spec t.sign with
      | none =>
        left
        refine ⟨letF_none told _ _ fun c hc => ?_, fun s => ?_⟩
        · have := spec_none h2 c hc
          simp [signB, this]
        · rw [attrsT, if_neg (by simp), attrsR, if_pos h1]
          cases avT told t.sign <;> simp [h2]
      | some q =>
        obtain ⟨⟨b, hb, hs⟩, _⟩ := spec_some h2
        have hl := letF_at told t r h1 lettersB b hb hs
        cases h3 : avT told t.sign with
        | false =>
          left
          refine ⟨by rw [letterR, hl, h3]; rfl, fun s => ?_⟩
          rw [attrsT, if_neg (by simp), attrsR, if_pos h1, h3]
          rfl
        | true =>
          right
          refine ⟨t, r, b, q, rfl, by rw [letterR, hl, h3, hs]; rfl, h1, hs, h3, h2, ?_⟩
          intro e
          have hb : b = 109 ∨ b = 110 ∨ b = 112 ∨ b = 113 ∨ b = 105 ∨ b = 111 ∨ b = 119 ∨ b = 104 ∨ b = 66 ∨ b = 65 ∨ b = 73 ∨ b = 99 := by simpa [lettersB] using hb
          rcases hb with rfl | rfl | rfl | rfl | rfl | rfl | rfl | rfl | rfl | rfl | rfl | rfl <;> cases e
    · left
      refine ⟨letF_none told _ _ fun c hc => by simp [signB, h1], fun s => ?_⟩
      rw [attrsT, if_neg (by simp), attrsR, if_neg h1]
end Go.Vc
namespace Go.Vc
theorem nums_len : ∀ (l : List Tk), (numsR l).1.length + (numsR l).2.length = l.length
  | [] => rfl
  | t :: r => by
    have := nums_len r
    rw [numsR]
    split
    · simp only [List.length_cons]; omega
    · simp
theorem text_words {l : List Tk} (h : signB 40 l = true) : ((textR l).1.drop 2).length ≤ l.length := by
  unfold textR
  simp only
  obtain ⟨e, hl⟩ := takeR_yes h
  rw [e]
  simp only
  have h1 := count_len 1 MX l.tail false
  generalize countR 1 MX l.tail false = c1 at *
  have h2 := count_len 0 MX c1.2.1 c1.2.2
  generalize countR 0 MX c1.2.1 c1.2.2 = c2 at *
  have h3 := count_len 1 MX c2.2.1 c2.2.2
  generalize countR 1 MX c2.2.1 c2.2.2 = c3 at *
  have h4 := nums_len c3.2.1
  simp only [List.cons_append,List.nil_append,List.drop_succ_cons,List.drop_zero,List.length_cons]
  omega
theorem told_words : ∀ (f : Nat) (l : List Tk) (w : Bool), ∀ x ∈ toldL (nodesT f l w).1, x.words.length ≤ l.length
  | f, l, true => by intro x hx; cases hx
  | 0, l, false => by intro x hx; cases hx
  | f + 1, l, false => by
    intro x hx
    rw [nodesT_false] at hx
    rcases sign_cases l with q | ⟨q1, q2⟩ | ⟨q1, q2, q3⟩ | ⟨q1, q2, q3, q4⟩ | ⟨q1, q2, q3, q4⟩
    · rw [nodesR_block q] at hx
      have h0 := (takeR_yes q).2
      have h1 := (attrsT_len (fun _ => true) plainS l.tail false).2
      generalize attrsT (fun _ => true) plainS l.tail false = a at *
      have h2 := nodesT_len f a.2.1 a.2.2
      have i1 := told_words f a.2.1 a.2.2
      generalize nodesT f a.2.1 a.2.2 = n at *
      have h3 := takeR_len 93 n.2.1 n.2.2
      generalize takeR 93 n.2.1 n.2.2 = c at *
      have i2 := told_words f c.1 c.2
      rw [toldL, toldS, List.cons_append, List.mem_cons, List.mem_append] at hx
      rcases hx with rfl | hx | hx
      · simp [ndS]
      · have := i1 x hx; omega
      · have := i2 x hx; omega
    · rw [nodesR_text q1 q2] at hx
      have h0 := textR_len q2
      have h1 := text_words q2
      generalize textR l = a at *
      have i2 := told_words f a.2.1 a.2.2
      rw [toldL, toldS, List.cons_append, List.mem_cons, List.nil_append] at hx
      rcases hx with rfl | hx
      · exact h1
      · have := i2 x hx; omega
    · rw [nodesR_box q1 q2 q3] at hx
      have h0 := (takeR_yes q3).2
      have h1 := boxR_len 125 l.tail false
      generalize boxR 125 l.tail false = a at *
      have i2 := told_words f a.2.2.1 a.2.2.2
      rw [toldL, toldS, List.cons_append, List.mem_cons, List.nil_append] at hx
      rcases hx with rfl | hx
      · simp [ndS]
      · have := i2 x hx; omega
    · rw [nodesR_float q1 q2 q3 q4] at hx
      have h0 := floatR_len q4
      have hf : ∃ w h d, (floatR l false).1 = .float w h d := ⟨_, _, _, rfl⟩
      obtain ⟨w, h, d, hf⟩ := hf
      rw [hf] at hx
      generalize floatR l false = a at *
      have i2 := told_words f a.2.1 a.2.2
      rw [toldL, toldS, List.cons_append, List.mem_cons, List.nil_append] at hx
      rcases hx with rfl | hx
      · simp [ndS]
      · have := i2 x hx; omega
    · rw [nodesR_none q1 q2 q3 q4] at hx
      cases hx
theorem readR_fine {s : List UInt8} {n : Nat} (hs : s.length ≤ n) : (readR s).1.length ≤ n ∧ ∀ x ∈ (readR s).1, x.words.length ≤ n := by
  by_cases h : (readR s).2.2 = 0
  · obtain ⟨_, l, hl, hn, ht⟩ := readR_ok h
    have hll := ofI_len hl
    have hw := (nodesR_wf l.length l).2
    have hx := told_words l.length l false
    rw [nodesT_false] at hx
    rw [ht]
    exact ⟨by omega, fun x hm => by have := hx x hm; omega⟩
  · rw [(readR_bad h).1]
    exact ⟨by simp, by simp⟩
def loK (k : Nat) : Int := if k = 5 ∨ k = 6 then 1 else 0
def hiK (k : Nat) : Int := if k = 8 ∨ k = 9 then 4 else if k = 10 then 1 else if k = 11 then 3 else MX
def okL (s : List Int) : Prop := ∀ k v, s[k]? = some v → loK k ≤ v ∧ v ≤ hiK k
theorem okL_plain : okL plainS := by
  intro k v h
  have hk : k < 12 := (List.getElem?_eq_some_iff.1 h).1
  have : ∀ k, k < 12 → ∀ v, plainS[k]? = some v → loK k ≤ v ∧ v ≤ hiK k := by
    intro k hk
    match k, hk with
    | 0, _ | 1, _ | 2, _ | 3, _ | 4, _ | 5, _ | 6, _ | 7, _ | 8, _ | 9, _ | 10, _ | 11, _ =>
      intro v h
      simp only [plainS,List.getElem?_cons_zero,List.getElem?_cons_succ,Option.some.injEq] at h
      subst h
      decide
  exact this k hk v h
theorem spec_ok {c : Int} {k : Nat} {a b : Int} (h : spec c = some (k, a, b)) : loK k ≤ a ∧ b ≤ hiK k := by
  have h0 := (spec_some h).1
  obtain ⟨u, hu, rfl⟩ := h0
  have hb : u = 109 ∨ u = 110 ∨ u = 112 ∨ u = 113 ∨ u = 105 ∨ u = 111 ∨ u = 119 ∨ u = 104 ∨ u = 66 ∨ u = 65 ∨ u = 73 ∨ u = 99 := by simpa [lettersB] using hu
  rcases hb with rfl | rfl | rfl | rfl | rfl | rfl | rfl | rfl | rfl | rfl | rfl | rfl <;> (cases h; decide)
theorem numB_is {a b : Int} {t : Tk} {r : List Tk} (h : numB a b (t :: r) = true) : a ≤ t.n ∧ t.n ≤ b := by
  simp only [numB,Bool.and_eq_true,decide_eq_true_eq] at h
  omega
theorem count_is {a b : Int} {l : List Tk} {w : Bool} (h : (countR a b l w).2.2 = false) : a ≤ (countR a b l w).1 ∧ (countR a b l w).1 ≤ b := by
  cases l with
  | nil => simp [countR] at h
  | cons t r =>
    rw [countR] at h ⊢
    split at h
    · cases h
    · rename_i hn
      rw [if_neg hn]
      simp only [Bool.or_eq_true,Bool.not_eq_true',not_or,Bool.not_eq_true,Bool.not_eq_false] at hn
      exact numB_is hn.2
theorem okL_set {s : List Int} (h : okL s) {k : Nat} {v : Int} (hv : loK k ≤ v ∧ v ≤ hiK k) : okL (s.set k v) := by
  intro j u hu
  rw [List.getElem?_set] at hu
  split at hu
  · rename_i e
    subst e
    split at hu
    · simp only [Option.some.injEq] at hu; subst hu; exact hv
    · cases hu
  · exact h j u hu
theorem attrs_okL : ∀ (m : Nat) (l : List Tk) (av : Int → Bool) (s : List Int) (w : Bool), l.length ≤ m → okL s → (attrsT av s l w).2.2 = false → okL (attrsT av s l w).1 := by
  intro m
  induction m with
  | zero =>
    intro l av s w hm hs h
    have h0 : l = [] := List.length_eq_zero_iff.1 (by omega)
    subst h0
    cases w with
    | true => cases h
    | false => exact hs
  | succ m ih =>
    intro l av s w hm hs h
    cases w with
    | true => cases h
    | false =>
      cases l with
      | nil => exact hs
      | cons t l =>
        by_cases h1 : t.kind = 1
        · cases h3 : av t.sign with
          | false =>
            rw [attrsT, if_neg (by simp), attrsR, if_pos h1, h3]
            exact hs
          | true =>
            cases h4 : spec t.sign with
            | none =>
              rw [attrsT, if_neg (by simp), attrsR, if_pos h1, h3]
              simp only [if_true,h4]
              exact hs
            | some q =>
              obtain ⟨k, a, b⟩ := q
              rw [attrsT, if_neg (by simp), attrsT_step h1 h3 h4] at h ⊢
              have hl := count_len a b l false
              simp only [List.length_cons] at hm
              have hc : (countR a b l false).2.2 = false := by
                cases hc : (countR a b l false).2.2 with
                | false => rfl
                | true => rw [hc] at h; cases h
              have hv := count_is hc
              have hk := spec_ok h4
              exact ih _ _ _ _ (by omega) (okL_set hs (by omega)) h
        · rw [attrsT, if_neg (by simp), attrsR, if_neg h1]
          exact hs
theorem styL_ok {s : List Int} (hl : s.length = 12) (h : okL s) : (styL s).ok = true := by
  match s, hl with
  | [x0, x1, x2, x3, x4, x5, x6, x7, x8, x9, x10, x11], _ =>
    have g0 := h 0 x0 rfl
    have g1 := h 1 x1 rfl
    have g2 := h 2 x2 rfl
    have g3 := h 3 x3 rfl
    have g4 := h 4 x4 rfl
    have g5 := h 5 x5 rfl
    have g6 := h 6 x6 rfl
    have g7 := h 7 x7 rfl
    have g8 := h 8 x8 rfl
    have g9 := h 9 x9 rfl
    have g10 := h 10 x10 rfl
    have g11 := h 11 x11 rfl
    simp [loK, hiK] at g0 g1 g2 g3 g4 g5 g6 g7 g8 g9 g10 g11
    have hMX : MX = 1099511627776 := rfl
    simp [styL, Sty.ok, isFrom, mx]
    omega
theorem box_is {e : Int} {l : List Tk} {w : Bool} (h : (boxR e l w).2.2.2 = false) : isFrom (boxR e l w).1 1 mx = true ∧ isFrom (boxR e l w).2.1 1 mx = true := by
  unfold boxR at h ⊢
  simp only at h ⊢
  have w3 : (countR 1 MX (countR 1 MX l w).2.1 (countR 1 MX l w).2.2).2.2 = false := (take_ok (r := []) h).2.2
  have w2 : (countR 1 MX l w).2.2 = false := (count_ok (r := []) w3).2.2
  have h1 := count_is w2
  have h2 := count_is w3
  have hMX : MX = 1099511627776 := rfl
  simp [isFrom, mx]
  omega
theorem nums_are : ∀ (l : List Tk), (numsR l).1.all (isFrom · 1 mx) = true
  | [] => rfl
  | t :: r => by
    rw [numsR]
    split
    · rename_i hn
      have := numB_is hn
      rw [List.all_cons, nums_are r]
      simp [isFrom, mx]
      omega
    · rfl
theorem text_is {l : List Tk} (h : (textR l).2.2 = false) : (ndS (.text (textR l).1)).ok = true := by
  unfold textR at h ⊢
  simp only at h ⊢
  obtain ⟨_, _, w5⟩ := take_ok (r := []) h
  obtain ⟨_, _, w4⟩ := count_ok (r := []) w5
  obtain ⟨_, _, w3⟩ := count_ok (r := []) w4
  have h1 := count_is w5
  have h2 := count_is w4
  have h3 := count_is w3
  have h4 := nums_are (countR 1 MX (countR 0 MX (countR 1 MX (takeR 40 l false).1 (takeR 40 l false).2).2.1 (countR 1 MX (takeR 40 l false).1 (takeR 40 l false).2).2.2).2.1
    (countR 0 MX (countR 1 MX (takeR 40 l false).1 (takeR 40 l false).2).2.1 (countR 1 MX (takeR 40 l false).1 (takeR 40 l false).2).2.2).2.2).2.1
  generalize (numsR _).1 = ws at *
  generalize (countR 1 MX (countR 0 MX (countR 1 MX (takeR 40 l false).1 (takeR 40 l false).2).2.1 (countR 1 MX (takeR 40 l false).1 (takeR 40 l false).2).2.2).2.1 (countR 0 MX (countR 1 MX (takeR 40 l false).1 (takeR 40 l false).2).2.1 (countR 1 MX (takeR 40 l false).1 (takeR 40 l false).2).2.2).2.2).1 = c3 at *
  generalize (countR 0 MX (countR 1 MX (takeR 40 l false).1 (takeR 40 l false).2).2.1 (countR 1 MX (takeR 40 l false).1 (takeR 40 l false).2).2.2).1 = c2 at *
  generalize (countR 1 MX (takeR 40 l false).1 (takeR 40 l false).2).1 = c1 at *
  simp only [ndS,List.cons_append,List.nil_append,List.getD_cons_zero,List.getD_cons_succ,List.drop_succ_cons,List.drop_zero,Nd.ok]
  simp only [List.all_cons,h4,List.length_cons]
  have hMX : MX = 1099511627776 := rfl
  simp [isFrom, mx]
  omega
theorem float_ok2 (w v d : Int) (hw : isFrom w 1 mx = true) (hv : isFrom v 1 mx = true) (hd : d = 1 ∨ d = 2) : (ndS (.float w v d)).ok = true := by
  rcases hd with rfl | rfl <;> (simp [ndS, Nd.ok, isFrom] at hw hv ⊢; exact ⟨hw, hv⟩)
theorem float_is {l : List Tk} (h : (floatR l false).2.2 = false) : ∃ w v d, (floatR l false).1 = .float w v d ∧ (ndS (.float w v d)).ok = true := by
  unfold floatR at h ⊢
  simp only at h ⊢
  have hb := box_is h
  refine ⟨_, _, _, rfl, float_ok2 _ _ _ hb.1 hb.2 ?_⟩
  split
  · exact .inr rfl
  · exact .inl rfl
theorem nodesT_wf (f : Nat) (c : RS) (h : (nodesT f c.1 c.2).2.2 = false) : c.2 = false := by
  cases hc : c.2 with
  | false => rfl
  | true => rw [hc] at h; cases h
theorem ok_size {x : Nd} (h : x.kind = 1) (n : Int) : ({ x with size := n } : Nd).ok = x.ok := by simp [Nd.ok, h]
theorem told_ok : ∀ (f : Nat) (l : List Tk) (w : Bool), (nodesT f l w).2.2 = false → ∀ x ∈ toldL (nodesT f l w).1, x.ok = true
  | f, l, true => by intro h; cases h
  | 0, l, false => by intro h x hx; cases hx
  | f + 1, l, false => by
    intro h x hx
    rw [nodesT_false] at hx h
    rcases sign_cases l with q | ⟨q1, q2⟩ | ⟨q1, q2, q3⟩ | ⟨q1, q2, q3, q4⟩ | ⟨q1, q2, q3, q4⟩
    · rw [nodesR_block q] at hx h
      have hal := (attrsT_len (fun _ => true) plainS l.tail false).1
      have hok := attrs_okL _ l.tail (fun _ => true) plainS false (Nat.le_refl _) okL_plain
      generalize attrsT (fun _ => true) plainS l.tail false = a at *
      have i1 := told_ok f a.2.1 a.2.2
      have wn := nodesT_wf f a.2
      generalize nodesT f a.2.1 a.2.2 = n at *
      have ht := take_ok (c := 93) (l := n.2.1) (r := []) (w := n.2.2)
      generalize takeR 93 n.2.1 n.2.2 = c at *
      have i2 := told_ok f c.1 c.2 h
      have wc := nodesT_wf f c h
      have wt := (ht wc).2.2
      rw [toldL, toldS, List.cons_append, List.mem_cons, List.mem_append] at hx
      rcases hx with rfl | hx | hx
      · rw [ok_size rfl]
        have hs := styL_ok (by rw [hal]; rfl) (hok (wn wt))
        simp [ndS, Nd.ok, hs]
      · exact i1 wt x hx
      · exact i2 x hx
    · rw [nodesR_text q1 q2] at hx h
      have hti := text_is (l := l)
      generalize textR l = a at *
      have i2 := told_ok f a.2.1 a.2.2 h
      have wc := nodesT_wf f a.2 h
      rw [toldL, toldS, List.cons_append, List.mem_cons, List.nil_append] at hx
      rcases hx with rfl | hx
      · exact hti wc
      · exact i2 x hx
    · rw [nodesR_box q1 q2 q3] at hx h
      have hbi := box_is (e := 125) (l := l.tail) (w := false)
      generalize boxR 125 l.tail false = a at *
      have i2 := told_ok f a.2.2.1 a.2.2.2 h
      have wc := nodesT_wf f a.2.2 h
      rw [toldL, toldS, List.cons_append, List.mem_cons, List.nil_append] at hx
      rcases hx with rfl | hx
      · obtain ⟨g1, g2⟩ := hbi wc
        simp [ndS, Nd.ok, g1, g2]
      · exact i2 x hx
    · rw [nodesR_float q1 q2 q3 q4] at hx h
      have hfi := float_is (l := l)
      generalize floatR l false = a at *
      have i2 := told_ok f a.2.1 a.2.2 h
      have wc := nodesT_wf f a.2 h
      obtain ⟨w, v, d, e, hk⟩ := hfi wc
      rw [e] at hx
      rw [toldL, toldS, List.cons_append, List.mem_cons, List.nil_append] at hx
      rcases hx with rfl | hx
      · exact hk
      · exact i2 x hx
    · rw [nodesR_none q1 q2 q3 q4] at hx
      cases hx
theorem rowsB_told : ∀ (m : Nat) (xs : List Shp) (pre post : List Nd), (toldL xs).length ≤ m → rowsB (pre ++ toldL xs ++ post) pre.length (pre.length + (toldL xs).length) = true := by
  intro m
  induction m with
  | zero =>
    intro xs pre post h
    have : (toldL xs).length = 0 := by omega
    rw [this]
    exact rowsB_nil _ _
  | succ m ih =>
    intro xs pre post h
    cases xs with
    | nil => simp only [toldL,List.length_nil,Nat.add_zero]; exact rowsB_nil _ _
    | cons x xs =>
      obtain ⟨hd, inner, ht, hsz, hk⟩ : ∃ (hd : Nd) (inner : List Shp), toldS x = hd :: toldL inner ∧ hd.size = 1 + ((toldL inner).length : Int) ∧ (hd.kind = 1 ∨ inner = []) := by
        cases x with
        | box w h => exact ⟨_, [], rfl, rfl, .inr rfl⟩
        | block s i => exact ⟨_, i, by rw [toldS], rfl, .inl rfl⟩
        | text ns => exact ⟨_, [], rfl, rfl, .inr rfl⟩
        | float w h d => exact ⟨_, [], rfl, rfl, .inr rfl⟩
      rw [toldL, ht] at h ⊢
      simp only [List.cons_append,List.length_cons,List.length_append] at h ⊢
      have hget : (pre ++ hd :: (toldL inner ++ toldL xs) ++ post)[pre.length]? = some hd := by simp
      rw [rowsB, dif_pos (by omega), hget]
      simp only
      rw [dif_pos (by omega)]
      have e1 : pre.length + hd.size.toNat = pre.length + 1 + (toldL inner).length := by omega
      rw [e1]
      have i1 := ih inner (pre ++ [hd]) (toldL xs ++ post) (by omega)
      have i2 := ih xs (pre ++ hd :: toldL inner) post (by omega)
      have l1 : pre ++ [hd] ++ toldL inner ++ (toldL xs ++ post) = pre ++ hd :: (toldL inner ++ toldL xs) ++ post := by simp
      have l2 : pre ++ hd :: toldL inner ++ toldL xs ++ post = pre ++ hd :: (toldL inner ++ toldL xs) ++ post := by simp
      rw [l1] at i1
      rw [l2] at i2
      simp only [List.length_append,List.length_cons,List.length_nil] at i1 i2
      rw [show pre.length + (0 + 1) + (toldL inner).length = pre.length + 1 + (toldL inner).length by omega, show pre.length + (0 + 1) = pre.length + 1 by omega] at i1
      rw [show pre.length + ((toldL inner).length + 1) + (toldL xs).length = pre.length + ((toldL inner).length + (toldL xs).length + 1) by omega, show pre.length + ((toldL inner).length + 1) = pre.length + 1 + (toldL inner).length by omega] at i2
      rw [i1, i2]
      rcases hk with hk | rfl
      · simp [hk]
      · have : hd.size ≤ 1 := by simp [toldL] at hsz; omega
        simp [this]
theorem readR_isB {s : List UInt8} (h : (readR s).2.2 = 0) : isB (readR s).1 = true := by
  obtain ⟨_, l, hl, hn, ht⟩ := readR_ok h
  rw [ht]
  have h1 := told_ok l.length l false (by rw [nodesT_false, hn])
  rw [nodesT_false] at h1
  have h2 := rowsB_told _ (nodesR l.length l).1 [] [] (Nat.le_refl _)
  simp only [List.nil_append,List.append_nil,List.length_nil,Nat.zero_add] at h2
  simp only [isB,Bool.and_eq_true,List.all_eq_true]
  exact ⟨h1, h2⟩
end Go.Vc
namespace Go.Vc
theorem rowsB_window (l : List Nd) (s k : Nat) : ∀ (m a e : Nat), e - a < m → e ≤ k → s + e ≤ l.length → rowsB ((l.drop s).take k) a e = rowsB l (s + a) (s + e)
  | 0, _, _, h, _, _ => by omega
  | m + 1, a, e, hm, hk, he => by
    rw [rowsB, rowsB]
    by_cases hae : a < e
    · rw [dif_pos hae, dif_pos (by omega)]
      have hg : ((l.drop s).take k)[a]? = l[s + a]? := by rw [List.getElem?_take, if_pos (by omega), List.getElem?_drop]
      rw [hg]
      cases hx : l[s + a]? with
      | none => rfl
      | some x =>
        simp only
        by_cases hc : 1 ≤ x.size ∧ x.size ≤ (e : Int) - a
        · rw [dif_pos hc, dif_pos (by omega)]
          rw [rowsB_window l s k m (a + 1) (a + x.size.toNat) (by omega) (by omega) (by omega), rowsB_window l s k m (a + x.size.toNat) e (by omega) hk he]
          rw [show s + (a + 1) = s + a + 1 by omega, show s + (a + x.size.toNat) = s + a + x.size.toNat by omega]
        · rw [dif_neg hc, dif_neg (by omega)]
    · rw [dif_neg hae, dif_neg (by omega)]
end Go.Vc
namespace Go.Vc
theorem isB_told {xs : List Shp} (h : ∀ x ∈ toldL xs, x.ok = true) : isB (toldL xs) = true := by
  have h2 := rowsB_told _ xs [] [] (Nat.le_refl _)
  simp only [List.nil_append,List.append_nil,List.length_nil,Nat.zero_add] at h2
  simp only [isB,Bool.and_eq_true,List.all_eq_true]
  exact ⟨h, h2⟩
end Go.Vc
namespace Go.Vc
theorem dec_step (u : Nat) (h : ¬ u < 10) : Lib.decDigits u = Lib.decDigits (u / 10) ++ [UInt8.ofNat (48 + u % 10)] := by rw [Lib.decDigits, dif_neg h]
theorem dec_ne (u : Nat) : Lib.decDigits u ≠ [] := by
  unfold Lib.decDigits
  split <;> simp
theorem dec_lim : ∀ (u : Nat), u ≤ 1099511627776 → (Lib.decDigits u).length ≤ 13 := by
  have step : ∀ (k u : Nat), u < 10 ^ (k + 1) → (Lib.decDigits u).length ≤ k + 1 := by
    intro k
    induction k with
    | zero => intro u h; rw [Lib.decDigits_one (by simpa using h)]; simp
    | succ k ih =>
      intro u h
      by_cases h9 : u < 10
      · rw [Lib.decDigits_one h9]; simp
      · rw [dec_step u h9]
        have := ih (u / 10) (by rw [Nat.pow_succ] at h; omega)
        simp; omega
  intro u hu
  exact step 12 u (by omega)
def dg (n : Int) : List UInt8 := Lib.decDigits n.toNat
theorem dg_itoa {n : Int} (h : 0 ≤ n) : Lib.itoa n = dg n := by unfold Lib.itoa dg; rw [if_neg (by omega)]
def inN (n : Int) : Prop := 0 ≤ n ∧ n ≤ 1099511627776
theorem dg_len {n : Int} (h : inN n) : (dg n).length ≤ 13 ∧ 1 ≤ (dg n).length := by
  refine ⟨dec_lim _ (by unfold inN at h; omega), ?_⟩
  have := dec_ne n.toNat
  unfold dg
  cases hd : Lib.decDigits n.toNat with
  | nil => exact absurd hd this
  | cons => simp
def Tk.at0 (t : Tk) : Tk := { t with at' := 0 }
section
end
abbrev sg (c : Int) : Tk := ⟨1, c, 0, 0⟩
abbrev nm (n : Int) : Tk := ⟨2, 0, n, 0⟩
def LexTo (T : List UInt8) (i : Nat) (ts : List Tk) (j : Nat) : Prop := ∃ l, l.map Tk.at0 = ts ∧ ofI T false i = (ofI T false j).app l
theorem LexTo.refl (T : List UInt8) (i : Nat) : LexTo T i [] i := ⟨[], rfl, (Res.app_nil _).symm⟩
theorem Res.app_app (a b : List Tk) (r : Res) : (r.app b).app a = r.app (a ++ b) := by cases r <;> simp [Res.app]
theorem LexTo.trans {T : List UInt8} {i j k : Nat} {a b : List Tk} (h1 : LexTo T i a j) (h2 : LexTo T j b k) : LexTo T i (a ++ b) k := by
  obtain ⟨l, rfl, e1⟩ := h1
  obtain ⟨m, rfl, e2⟩ := h2
  exact ⟨l ++ m, by simp, by rw [e1, e2, Res.app_app]⟩
end Go.Vc
namespace Go.Vc
def attX (s : List Int) : Nat → Nat → List UInt8
  | 0, _ => []
  | m + 1, j => (if s.getD j 0 = plainS.getD j 0 then [] else lettersB.getD j 0 :: dg (s.getD j 0)) ++ attX s m (j + 1)
def joinX : List Int → List UInt8
  | [] => []
  | [n] => dg n
  | n :: m :: l => dg n ++ 32 :: joinX (m :: l)
mutual
/-- a shape's text; shapes' texts, behind each so-and-so -/
def txtS : Shp → List UInt8
  | .box w h => 123 :: (joinX [w, h] ++ [125])
  | .block s inner => 91 :: (attX s 12 0 ++ (txtL [] inner ++ [93]))
  | .text ns => 40 :: (joinX ns ++ [41])
  | .float w h d => 60 :: (if d = 2 then 82 else 76) :: (joinX [w, h] ++ [62])
def txtL (e : List UInt8) : List Shp → List UInt8
  | [] => []
  | x :: l => txtS x ++ (e ++ txtL e l)
end
mutual
/-- numbers such as a reader takes -/
def okS : Shp → Prop
  | .box w h => (1 ≤ w ∧ w ≤ MX) ∧ (1 ≤ h ∧ h ≤ MX)
  | .block s inner => (s.length = 12 ∧ okL s) ∧ okSs inner
  | .text ns => ∃ a b c r, ns = a :: b :: c :: r ∧ (1 ≤ a ∧ a ≤ MX) ∧ (0 ≤ b ∧ b ≤ MX) ∧ (1 ≤ c ∧ c ≤ MX) ∧ ∀ n ∈ r, 1 ≤ n ∧ n ≤ MX
  | .float w h d => (1 ≤ w ∧ w ≤ MX) ∧ (1 ≤ h ∧ h ≤ MX) ∧ (d = 1 ∨ d = 2)
def okSs : List Shp → Prop
  | [] => True
  | x :: l => okS x ∧ okSs l
end
theorem inN_of {n : Int} (h : 1 ≤ n ∧ n ≤ MX) : inN n := by have hMX : MX = 1099511627776 := rfl; unfold inN; omega
theorem inN_of0 {n : Int} (h : 0 ≤ n ∧ n ≤ MX) : inN n := by have hMX : MX = 1099511627776 := rfl; unfold inN; omega
theorem okL_in {s : List Int} (h : okL s) (j : Nat) : inN (s.getD j 0) := by
  rw [List.getD_eq_getElem?_getD]
  cases hj : s[j]? with
  | none => simp [inN]
  | some v =>
    have := h j v hj
    have h1 : 0 ≤ loK j := by unfold loK; split <;> omega
    have h2 : hiK j ≤ MX := by unfold hiK; (repeat' split) <;> decide
    exact inN_of0 (by simp only [Option.getD_some]; omega)
end Go.Vc
namespace Go.Vc
def costN (x : Nd) : Nat := 400 + 14 * x.words.length
def costs : List Nd → Nat
  | [] => 0
  | x :: l => costN x + costs l
theorem costs_app (a b : List Nd) : costs (a ++ b) = costs a + costs b := by
  induction a with
  | nil => simp [costs]
  | cons x a ih => simp [costs, ih]; omega
theorem joinX_len {ns : List Int} (h : ∀ n ∈ ns, inN n) : (joinX ns).length ≤ 14 * ns.length := by
  induction ns with
  | nil => simp [joinX]
  | cons a ns ih =>
    have ha := (dg_len (h a (by simp))).1
    cases ns with
    | nil => simp [joinX]; omega
    | cons b ns =>
      have := ih (fun n hn => h n (by simp [hn]))
      simp only [joinX,List.length_append,List.length_cons] at this ⊢
      omega
theorem attX_len {s : List Int} (h : ∀ j, inN (s.getD j 0)) : ∀ (m j : Nat), (attX s m j).length ≤ 14 * m
  | 0, _ => by simp [attX]
  | m + 1, j => by
    have h1 := attX_len h m (j + 1)
    have h2 := (dg_len (h j)).1
    rw [attX]
    split <;> simp only [List.length_append,List.length_cons,List.length_nil] <;> omega
theorem okT_in {ns : List Int} (h : okS (.text ns)) : (∀ n ∈ ns, inN n) ∧ 2 ≤ ns.length := by
  obtain ⟨a, b, c, r, rfl, ha, hb, hc, hr⟩ := h
  refine ⟨fun n hn => ?_, by simp⟩
  simp only [List.mem_cons] at hn
  rcases hn with rfl | rfl | rfl | hn
  · exact inN_of ha
  · exact inN_of0 hb
  · exact inN_of hc
  · exact inN_of (hr _ hn)
mutual
theorem txtS_len : ∀ x : Shp, okS x → (txtS x).length + 1 ≤ costs (toldS x)
  | .box w h, hx => by
    have h1 := (dg_len (inN_of hx.1)).1
    have h2 := (dg_len (inN_of hx.2)).1
    simp [txtS, joinX, toldS, costs, costN]; omega
  | .float w h d, hx => by
    have h1 := (dg_len (inN_of hx.1)).1
    have h2 := (dg_len (inN_of hx.2.1)).1
    simp [txtS, joinX, toldS, costs, costN]; omega
  | .text ns, hx => by
    obtain ⟨h1, h2⟩ := okT_in hx
    have h3 := joinX_len h1
    simp [txtS, toldS, costs, costN, ndS]; omega
  | .block s inner, hx => by
    have h1 := txtL_len inner hx.2 [] (by simp)
    have h2 := attX_len (okL_in hx.1.2) 12 0
    simp [txtS, toldS, costs, costN, ndS]; omega
theorem txtL_len : ∀ xs : List Shp, okSs xs → ∀ e : List UInt8, e.length ≤ 1 → (txtL e xs).length ≤ costs (toldL xs)
  | [], _, _, _ => by simp [txtL]
  | x :: l, hx, e, he => by
    have h1 := txtS_len x hx.1
    have h2 := txtL_len l hx.2 e he
    simp only [txtL,toldL,costs_app,List.length_append]; omega
end
end Go.Vc
namespace Go.Vc
open Go.Proofs
section
variable {P : Program} {n : Nat} {st : St} {Q : St → Prop} {k : List It}
theorem Go.pcallG {i : VIns} {l : List VIns} {fx : VX} {xs : List VX} {f : FuncId} {caps : List V} {v : V} (hw : wantV st.s i.g = some true) (ho : i.op = .call fx xs)
    (hf : fx.ev st.s = .fn f caps) (hc : PFun P f (xs.map (·.ev st.s) ++ caps) v) (h : Go P n (.d l k) ⟨putO st.s i.dst v, st.σ⟩ Q) : Go P n (.d (i :: l) k) st Q := by
  refine T_true hw ?_
  rw [ho]
  exact ⟨f, caps, v, hf, fun σ1 _ => hc σ1, h⟩
end
theorem Contract.args {P : Program} {f : FuncId} {args args' : List V} {σ : Store} {Post : V → Store → Prop} (hw : WkL σ σ args args') (h : Contract P f args' σ Post) : Contract P f args σ Post :=
  ⟨h.1, fun μ w vals hs hr => h.2 μ w vals hs (WkL.all hs hw hr)⟩
def gnodesR (l : List Tk) (p : Nat) : GR := toG l.length (toldL (nodesR l.length (l.drop p)).1) (nodesR l.length (l.drop p)).2
def NodesG (l : List Tk) (k : Nat) : Prop := ∀ p, p ≤ l.length → l.length - p ≤ k → PFun Tryz.prog 23 [encL l, vI p] (encG (gnodesR l p))
def gblockR (l : List Tk) (p : Nat) : GR :=
  let a := attrsT (fun _ => true) plainS (l.drop (p + 1)) false
  let n := nodesT l.length a.2.1 a.2.2
  toG l.length (toldS (.block a.1 n.1)) (takeR 93 n.2.1 n.2.2)
abbrev gotO (v : V) : Ob := ⟨68, 3, [v]⟩
abbrev styR (s : List Int) : Ob := ⟨55, 12, [.agg (s.map vI)]⟩
structure BInv (K σ : Store) (id5 : Nat) (s : List Int) : Prop where
  off : Off id5 K σ
  r5 : σ id5 = some (styR s)
  len : s.length = 12
theorem sload {σ : Store} {id5 : Nat} {s : List Int} (h : σ id5 = some (styR s)) (hl : s.length = 12) : loadV σ true 12 (.ptr id5 0 0) = some (.agg (s.map vI)) := by
  simp [loadV, h, V.cells, hl]
theorem sstore {σ : Store} {id5 : Nat} {s s' : List Int} (h : σ id5 = some (styR s)) (hl : s.length = 12) (hl' : s'.length = 12) : storeS σ 12 (.ptr id5 0 0) (.agg (s'.map vI)) = some (upd σ id5 (styR s')) := by
  simp [storeS, h, setRowV, V.cells, V.stays, hl, hl']
theorem suffix_drop {l r : List Tk} (h : ∃ p, l = p ++ r) : r = l.drop (l.length - r.length) := by
  obtain ⟨p, rfl⟩ := h
  rw [List.length_append, Nat.add_sub_cancel, List.drop_left]
theorem noid_nds (l : List Nd) : noidL (l.map encN) = true := by
  induction l with
  | nil => rfl
  | cons x l ih =>
    rw [List.map_cons, noidL, ih]
    simp [encN, Nd.cells, V.noid, noidL, encI, noid_ints]
theorem retGR {σ τ : Store} {id n : Nat} {x : Nd} {ns : List Nd} {p : Nat} {a : Int} {v : V} (h : SubStore σ τ) (hid : τ id = some ⟨58, 20, ndW x v :: ns.map encN⟩) (hn : σ id = none)
    (hv : Fz τ (fun id => σ id = none) v (encI x.words)) (hl : n = ns.length + 1) (ha : a = (p : Int)) :
    RetV (.agg [.own id 0 n, .int .i64 a, .int .i64 0]) τ fun r σ' => r = encG (x :: ns, p, false) ∧ σ' = σ := by
  subst ha hl
  refine ⟨_, σ, h, (Fz.agg _ _ (.cons _ _ _ _ (.own id 0 (ns.length + 1) _ ((x :: ns).map encN) hid (show σ id = none from hn) (by simp) ?_) (FzL.same [vI (p : Int), vI 0] rfl)) : Fz τ (fun id => σ id = none) _ _).wk h (fun _ h => h), rfl, rfl⟩
  rw [List.drop_zero, List.take_of_length_le (by simp)]
  exact .cons _ _ _ _ (fz_nd hv) (FzL.same _ (noid_nds ns))
theorem lenNs (l : List Nd) : lenV false (encNs l) = some (.int .i64 (l.length : Int)) := by simp [encNs, lenV]
theorem srcNs (σ : Store) (l : List Nd) : srcRows σ 20 (encNs l) = some (l.map encN) := by simp [encNs, srcRows]
set_option maxRecDepth 100000 in
theorem gblock_c {l : List Tk} {k : Nat} (ih : NodesG l k) (hl : l.length ≤ 1000000) (p : Nat) (hp : p < l.length) (hk : l.length - p ≤ k + 1) : PFun Tryz.prog 61 [encL l, vI p] (encG (gblockR l p)) := fun σ => by
  refine Contract.of_runs Tryz.func61 e61 k61 (by simp [c61]) ?_
  refine Runs.mix 12 ?_
  have hi1 : inR .i64 ((p : Int) + 1) := inR_i64 (by omega) (by omega)
  have e1 : (p : Int) + 1 = ((p + 1 : Nat) : Int) := by omega
  (refine Runs.of_step Orc.nothing 300 ?_; simp -implicitDefEqProofs only [BB,seval,← decide_not,okind,vpre,vpure,intBin,intPre,strBin,strPre,popTo,argSlots,fldV,fldAV,subCells,idxVV,idxAAV,idxSV,sliceV,sliceSV,boundV,szIs,storeOp,storeS,setRowV,eff,extV,buildV,splice,eqSV,fitsL,eqCells,eqCell,minmaxV,capV,binBV,nilCheckV,bytesV,V.cells,V.stays,Orc.nothing,c61])
  refine effR_new fun id4 σ4 s4 a4 f4 => ?_
  simp -implicitDefEqProofs only [BB,seval,← decide_not,okind,vpre,vpure,intBin,intPre,strBin,strPre,popTo,argSlots,fldV,fldAV,subCells,idxVV,idxAAV,idxSV,sliceV,sliceSV,boundV,szIs,storeOp,storeS,setRowV,eff,extV,buildV,splice,eqSV,fitsL,eqCells,eqCell,minmaxV,capV,binBV,nilCheckV,bytesV,V.cells,V.stays,hi1]
  refine effR_new fun id5 σ5 s5 a5 f5 => ?_
  simp -implicitDefEqProofs only [BB,seval,← decide_not,okind,vpre,vpure,intBin,intPre,strBin,strPre,popTo,argSlots,fldV,fldAV,subCells,idxVV,idxAAV,idxSV,sliceV,sliceSV,boundV,szIs,storeOp,storeS,setRowV,eff,extV,buildV,splice,eqSV,fitsL,eqCells,eqCell,minmaxV,capV,binBV,nilCheckV,bytesV,V.cells,V.stays,a5]
  rw [e1]
  have hplain : (V.agg [.int .i64 0, .int .i64 0, .int .i64 0, .int .i64 0, .int .i64 0, .int .i64 2, .int .i64 2, .int .i64 0, .int .i64 0, .int .i64 0, .int .i64 0, .int .i64 0]) = .agg (plainS.map vI) := rfl
  rw [hplain]
  have hsub5 : SubStore σ (upd σ5 id5 (styR plainS)) := (s4.trans s5).updK (s4.none f5)
  have b4 : upd σ5 id5 (styR plainS) id4 = some (gotO (.agg [.nils, vI 0, vI 0])) := by rw [upd_ne (ne_new a4 f5)]; exact s5 _ _ a4
  have n45 : id4 ≠ id5 := ne_new a4 f5
  have inv0 : BInv (upd σ5 id5 (styR plainS)) (upd σ5 id5 (styR plainS)) id5 plainS := ⟨Off.refl _ _, upd_same, rfl⟩
  have f5' : σ id5 = none := s4.none f5
  generalize upd σ5 id5 (styR plainS) = K at *
  refine Runs.loop (fun m st => ∃ (told : List UInt8) (s : List Int) (q : Nat), m = l.length - q ∧ q ≤ l.length ∧ q = p + 1 + 2 * told.length ∧ attrsT (fun _ => true) plainS (l.drop (p + 1)) false = attrsT (avT told) s (l.drop q) false ∧
      BInv K st.σ id5 s ∧ st.s 0 = encL l ∧ st.s 1 = vI (q : Int) ∧ st.s 4 = .ptr id4 0 0 ∧ st.s 5 = .ptr id5 0 0 ∧ st.s 6 = .str told) (l.length - (p + 1))
      ⟨[], plainS, p + 1, rfl, by omega, rfl, by rw [avT_nil], inv0, rfl, rfl, rfl, rfl, rfl⟩ ?_
  rintro m ⟨S, σc⟩ ⟨told, s, q, rfl, hq, hqt, hat, inv, p0, p1, p4, p5, p6⟩
  simp only at inv p0 p1 p4 p5 p6
  refine Runs.mix 12 ?_
  have r5 := inv.r5
  have hsl := inv.len
  have hs4 : σc id4 = some (gotO (.agg [.nils, vI 0, vI 0])) := inv.off id4 n45 _ b4
  have hsubc : SubStore σ σc := fun j o ho => inv.off j (ne_new ho f5') _ (hsub5 _ _ ho)
  (refine Runs.of_step Orc.nothing 300 ?_; simp -implicitDefEqProofs only [BB,seval,effR_some,effD_some,← decide_not,okind,vpre,vpure,intBin,intPre,strBin,strPre,popTo,argSlots,fldV,fldAV,subCells,idxVV,idxAAV,idxSV,sliceV,sliceSV,boundV,szIs,storeOp,storeS,setRowV,eff,extV,buildV,splice,eqSV,fitsL,eqCells,eqCell,minmaxV,capV,binBV,nilCheckV,bytesV,V.cells,V.stays,Orc.nothing,p0,p1,p4,p5,p6])
  refine Runs.pcall rfl rfl rfl (gletter_c l q told (by omega) _) ?_
  rcases letter_is told (l.drop q) with ⟨h0, hst⟩ | ⟨t, r, b, sp, hd, hlet, hk1, hsg, hav, hsp, hb0⟩
  · rw [h0]
    have ha : attrsT (fun _ => true) plainS (l.drop (p + 1)) false = (s, l.drop q, false) := by rw [hat, hst s]
    have hgb : gblockR l p = toG l.length (toldS (.block s (nodesR l.length (l.drop q)).1)) (takeR 93 (nodesR l.length (l.drop q)).2.1 (nodesR l.length (l.drop q)).2.2) := by
      simp only [gblockR,ha,nodesT_false]
    rw [hgb]
    have hwf := nodesR_wf l.length (l.drop q)
    have hsuf := suffix_drop (suf_trans ⟨l.take q, (List.take_append_drop q l).symm⟩ (rest_suffix l.length (l.drop q) false))
    rw [nodesT_false] at hsuf
    clear hgb ha hat hst h0
    (refine Runs.of_step Orc.nothing 300 ?_; simp -implicitDefEqProofs only [BB,seval,effR_some,effD_some,← decide_not,okind,vpre,vpure,intBin,intPre,strBin,strPre,popTo,argSlots,fldV,fldAV,subCells,idxVV,idxAAV,idxSV,sliceV,sliceSV,boundV,szIs,storeOp,storeS,setRowV,eff,extV,buildV,splice,eqSV,fitsL,eqCells,eqCell,minmaxV,capV,binBV,nilCheckV,bytesV,V.cells,V.stays,Orc.nothing,p0,p1,p4,p5,p6])
    refine Runs.pcall rfl rfl rfl (ih q hq (by omega) _) ?_
    unfold gnodesR
    generalize nodesR l.length (l.drop q) = n at *
    obtain ⟨xs, rest, w⟩ := n
    simp only at hwf hsuf ⊢
    have hrl : rest.length ≤ l.length := by rw [List.length_drop] at hwf; omega
    have hns : (toldL xs).length ≤ 1000000 := by rw [List.length_drop] at hwf; omega
    cases w with
    | true =>
      have hg : toG l.length (toldL xs) (rest, true) = ([], l.length - rest.length, true) := rfl
      have hg2 : toG l.length (toldS (.block s xs)) (takeR 93 rest true) = ([], l.length - rest.length, true) := by rw [take_w]; rfl
      rw [hg, hg2]
      simp only [encG,if_true]
      (refine Runs.of_step Orc.nothing 300 ?_; simp -implicitDefEqProofs only [BB,seval,← decide_not,okind,vpre,vpure,intBin,intPre,strBin,strPre,popTo,argSlots,fldV,fldAV,subCells,idxVV,idxAAV,idxSV,sliceV,sliceSV,boundV,szIs,storeOp,storeS,setRowV,eff,extV,buildV,splice,eqSV,fitsL,eqCells,eqCell,minmaxV,capV,binBV,nilCheckV,bytesV,V.cells,V.stays,Orc.nothing])
      refine effR_new fun id10 σ10 s10 a10 f10 => ?_
      have g4 := s10 _ _ hs4
      have n10 : id4 ≠ id10 := ne_new hs4 f10
      have hc := encNs_cells []
      have hcs := encNs_stays []
      simp -implicitDefEqProofs only [BB,seval,← decide_not,okind,vpre,vpure,intBin,intPre,strBin,strPre,popTo,argSlots,fldV,fldAV,subCells,idxVV,idxAAV,idxSV,sliceV,sliceSV,boundV,szIs,storeOp,storeS,setRowV,eff,extV,buildV,splice,eqSV,fitsL,eqCells,eqCell,minmaxV,capV,binBV,nilCheckV,bytesV,V.cells,V.stays,p0,p4,hc,hcs,a10,g4,upd_ne n10,upd_ne n10.symm]
      exact RetV.pure (((hsubc.trans s10).updK (hsubc.none f10)).updK f4) rfl
    | false =>
      have hg : toG l.length (toldL xs) (rest, false) = (toldL xs, l.length - rest.length, false) := rfl
      rw [hg]
      simp only [encG,Bool.false_eq_true,if_false]
      generalize hatq : l.length - rest.length = at' at *
      have hat' : at' ≤ l.length := by omega
      (refine Runs.of_step Orc.nothing 300 ?_; simp -implicitDefEqProofs only [BB,seval,← decide_not,okind,vpre,vpure,intBin,intPre,strBin,strPre,popTo,argSlots,fldV,fldAV,subCells,idxVV,idxAAV,idxSV,sliceV,sliceSV,boundV,szIs,storeOp,storeS,setRowV,eff,extV,buildV,splice,eqSV,fitsL,eqCells,eqCell,minmaxV,capV,binBV,nilCheckV,bytesV,V.cells,V.stays,Orc.nothing])
      refine effR_new fun id10 σ10 s10 a10 f10 => ?_
      have g4 := s10 _ _ hs4
      have g5 := s10 _ _ r5
      have n10 : id4 ≠ id10 := ne_new hs4 f10
      have n105 : id5 ≠ id10 := ne_new r5 f10
      have hc := encNs_cells (toldL xs)
      have hcs := encNs_stays (toldL xs)
      have hln := lenNs (toldL xs)
      have hsr := fun σ => srcNs σ (toldL xs)
      generalize hvn : encNs (toldL xs) = vn at *
      simp -implicitDefEqProofs only [BB,seval,← decide_not,okind,vpre,vpure,intBin,intPre,strBin,strPre,popTo,argSlots,fldV,fldAV,subCells,idxVV,idxAAV,idxSV,sliceV,sliceSV,boundV,szIs,storeOp,storeS,setRowV,eff,extV,buildV,splice,eqSV,fitsL,eqCells,eqCell,minmaxV,capV,binBV,nilCheckV,bytesV,V.cells,V.stays,p0,p4,hc,hcs,a10]
      refine Runs.pcall rfl rfl rfl (gsign_c l at' 93 _) ?_
      rw [← hsuf]
      cases hs : signB 93 rest with
      | false =>
        have hg2 : toG l.length (toldS (.block s xs)) (takeR 93 rest false) = ([], at', true) := by
          rw [take_no hs, toG]; simp only [if_true,hatq]
        rw [hg2]
        (refine Runs.of_step Orc.nothing 300 ?_; simp -implicitDefEqProofs only [BB,seval,effR_some,effD_some,← decide_not,okind,vpre,vpure,intBin,intPre,strBin,strPre,popTo,argSlots,fldV,fldAV,subCells,idxVV,idxAAV,idxSV,sliceV,sliceSV,boundV,szIs,storeOp,storeS,setRowV,eff,extV,buildV,splice,eqSV,fitsL,eqCells,eqCell,minmaxV,capV,binBV,nilCheckV,bytesV,V.cells,V.stays,Orc.nothing,p0,p4,g4,upd_ne n10,upd_ne n10.symm])
        exact retG (((hsubc.trans s10).updK (hsubc.none f10)).updK f4)
      | true =>
        have hg2 : toG l.length (toldS (.block s xs)) (takeR 93 rest false) = (toldS (.block s xs), at' + 1, false) := by
          obtain ⟨h1, h2⟩ := takeR_yes hs
          rw [h1, toG]
          simp only [Bool.false_eq_true,if_false]
          congr 2; omega
        rw [hg2]
        have hin1 : inR .i64 ((1 : Int) + ((toldL xs).length : Int)) := inR_i64 (by omega) (by omega)
        have hin2 : inR .i64 ((at' : Int) + 1) := inR_i64 (by omega) (by omega)
        match s, hsl, r5, g5 with
        | [x0, x1, x2, x3, x4, x5, x6, x7, x8, x9, x10, x11], _, r5, g5 =>
          have g5 : σ10 id5 = some ⟨55, 12, [.agg [vI x0, vI x1, vI x2, vI x3, vI x4, vI x5, vI x6, vI x7, vI x8, vI x9, vI x10, vI x11]]⟩ := g5
          (refine Runs.of_step Orc.nothing 300 ?_; simp -implicitDefEqProofs only [BB,seval,← decide_not,okind,vpre,vpure,intBin,intPre,strBin,strPre,popTo,argSlots,fldV,fldAV,subCells,idxVV,idxAAV,idxSV,sliceV,sliceSV,boundV,szIs,storeOp,storeS,setRowV,eff,extV,buildV,splice,eqSV,fitsL,eqCells,eqCell,minmaxV,capV,binBV,nilCheckV,bytesV,V.cells,V.stays,Orc.nothing,p0,p1,p4,p5,g5,upd_ne n105,upd_ne n105.symm,hln,hin1])
          refine effR_new fun id11 σ11 s11 a11 f11 => ?_
          simp -implicitDefEqProofs only [BB,seval,← decide_not,okind,vpre,vpure,intBin,intPre,strBin,strPre,popTo,argSlots,fldV,fldAV,subCells,idxVV,idxAAV,idxSV,sliceV,sliceSV,boundV,szIs,storeOp,storeS,setRowV,eff,extV,buildV,splice,eqSV,fitsL,eqCells,eqCell,minmaxV,capV,binBV,nilCheckV,bytesV,V.cells,V.stays,a11]
          refine effD_new fun id77 σ77 s77 a77 f77 => ?_
          have f10' : σc id10 = none := f10
          have n1011 : id10 ≠ id11 := fun e => by
            have h : upd σ10 id10 _ id11 = none := f11
            rw [← e, upd_same] at h; cases h
          have f11' : σ10 id11 = none := by
            have h : upd σ10 id10 _ id11 = none := f11
            rw [upd_ne n1011.symm] at h; exact h
          have n411 : id4 ≠ id11 := ne_new g4 f11'
          generalize hK2 : upd σ11 id11 _ = K2 at *
          have k10 : K2 id10 = some (gotO (.agg [vn, vI at', vI 0])) := by rw [← hK2, upd_ne n1011]; exact s11 _ _ upd_same
          have k4 : K2 id4 = some (gotO (.agg [.nils, vI 0, vI 0])) := by rw [← hK2, upd_ne n411]; exact s11 _ _ (by rw [upd_ne n10]; exact g4)
          have a77' : σ77 id77 = some ⟨58, 20, [ndW { ndS (.block [x0, x1, x2, x3, x4, x5, x6, x7, x8, x9, x10, x11] xs) with size := 1 + ((toldL xs).length : Int) } .nils]⟩ := a77
          obtain ⟨idA, hda, hdA⟩ := (OutV.new (n := 1) rfl a77' f77).dst' (SubStore.refl _)
          have hb : (1 + (toldL xs).length) * 177 ≤ 140737488355328 := by omega
          have h10 := s77 _ _ k10
          simp -implicitDefEqProofs only [BB,seval,← decide_not,okind,vpre,vpure,intBin,intPre,strBin,strPre,popTo,argSlots,fldV,fldAV,subCells,idxVV,idxAAV,idxSV,sliceV,sliceSV,boundV,szIs,storeOp,storeS,setRowV,eff,extV,buildV,splice,eqSV,fitsL,eqCells,eqCell,minmaxV,capV,binBV,nilCheckV,bytesV,V.cells,V.stays,h10,hda,hsr,List.length_map,hb,hin2,hc,hcs]
          refine effD_put fun id80 σ80 s80 a80 f80 => ?_
          have q10 := keepA hdA s80 id10 _ (by rw [k10]; simp) h10
          have q4 := keepA hdA s80 id4 _ (by rw [k4]; simp) (s77 _ _ k4)
          simp -implicitDefEqProofs only [BB,seval,← decide_not,okind,vpre,vpure,intBin,intPre,strBin,strPre,popTo,argSlots,fldV,fldAV,subCells,idxVV,idxAAV,idxSV,sliceV,sliceSV,boundV,szIs,storeOp,storeS,setRowV,eff,extV,buildV,splice,eqSV,fitsL,eqCells,eqCell,minmaxV,capV,binBV,nilCheckV,bytesV,V.cells,V.stays,q10,q4,p4,hin2]
          have hK2s : SubStore σ K2 := by
            rw [← hK2]
            exact (((hsubc.trans s10).updK (hsubc.none f10')).trans s11).updK (by
              have h : upd σ10 id10 _ id11 = none := f11
              exact ((hsubc.trans s10).updK (hsubc.none f10')).none h)
          have sub80 : SubStore σ σ80 := fun j o ho => keepA hdA s80 j o (by rw [hK2s _ _ ho]; simp) (s77 _ _ (hK2s _ _ ho))
          have f80' : σ id80 = none := hK2s.none (s77.none f80)
          have n80 : id80 ≠ id4 := fun e => by rw [e, s77 _ _ k4] at f80; cases f80
          have hts : toldS (.block [x0, x1, x2, x3, x4, x5, x6, x7, x8, x9, x10, x11] xs) = { ndS (.block [x0, x1, x2, x3, x4, x5, x6, x7, x8, x9, x10, x11] xs) with size := 1 + ((toldL xs).length : Int) } :: toldL xs := by rw [toldS]
          rw [hts]
          exact retGR (v := .nils) (sub80.updK f4) (by rw [upd_ne n80]; exact a80) f80' (.nil 1) (by omega) (by omega)
  · rw [hlet]
    have hql : q < l.length := by
      apply Classical.byContradiction
      intro hn
      rw [List.drop_eq_nil_of_le (by omega)] at hd
      cases hd
    have hne : ((b.toNat : Int) ≠ 0) = True := by simpa using hb0
    (refine Runs.of_step Orc.nothing 300 ?_; simp -implicitDefEqProofs only [BB,seval,effR_some,effD_some,← decide_not,okind,vpre,vpure,intBin,intPre,strBin,strPre,popTo,argSlots,fldV,fldAV,subCells,idxVV,idxAAV,idxSV,sliceV,sliceSV,boundV,szIs,storeOp,storeS,setRowV,eff,extV,buildV,splice,eqSV,fitsL,eqCells,eqCell,minmaxV,capV,binBV,nilCheckV,bytesV,V.cells,V.stays,Orc.nothing,p0,p1,p6,hne])
    refine Runs.pcall rfl rfl rfl (gletter_c l q told (by omega) _) ?_
    rw [hlet]
    (refine Runs.of_step Orc.nothing 300 ?_; simp -implicitDefEqProofs only [BB,seval,effR_some,effD_some,← decide_not,okind,vpre,vpure,intBin,intPre,strBin,strPre,popTo,argSlots,fldV,fldAV,subCells,idxVV,idxAAV,idxSV,sliceV,sliceSV,boundV,szIs,storeOp,storeS,setRowV,eff,extV,buildV,splice,eqSV,fitsL,eqCells,eqCell,minmaxV,capV,binBV,nilCheckV,bytesV,V.cells,V.stays,Orc.nothing,p0,p1,p6])
    refine Runs.pcall rfl rfl rfl (glimits_c b.toNat _) ?_
    have hlim := (spec_some hsp).2
    rw [hsg] at hlim
    rw [hlim]
    have hiq : inR .i64 ((q : Int) + 1) := inR_i64 (by omega) (by omega)
    have eq1 : (q : Int) + 1 = ((q + 1 : Nat) : Int) := by omega
    (refine Runs.of_step Orc.nothing 300 ?_; simp -implicitDefEqProofs only [BB,seval,effR_some,effD_some,← decide_not,okind,vpre,vpure,intBin,intPre,strBin,strPre,popTo,argSlots,fldV,fldAV,subCells,idxVV,idxAAV,idxSV,sliceV,sliceSV,boundV,szIs,storeOp,storeS,setRowV,eff,extV,buildV,splice,eqSV,fitsL,eqCells,eqCell,minmaxV,capV,binBV,nilCheckV,bytesV,V.cells,V.stays,Orc.nothing,p0,p1,p6,hiq])
    rw [eq1]
    refine Runs.pcall rfl rfl rfl (gnum_c l (q + 1) _ _ _) ?_
    have hdq : l.drop (q + 1) = r := by
      have := List.drop_eq_getElem_cons hql
      rw [hd] at this
      exact (List.cons.inj this).2.symm
    have hstep := attrsT_step (s := s) (r := r) hk1 hav hsp
    have hT : attrsT (avT told) s (l.drop q) false = attrsR (avT told) s (t :: r) := by rw [hd]; rfl
    cases hn : numB sp.2.1 sp.2.2 (l.drop (q + 1)) with
    | false =>
      have hr : gblockR l p = ([], q + 1, true) := by
        have ha : (attrsT (fun _ => true) plainS (l.drop (p + 1)) false).2 = (l.drop (q + 1), true) := by
          rw [hat, hT, hstep, ← hdq, count_no hn]; rfl
        have ha' : attrsT (fun _ => true) plainS (l.drop (p + 1)) false = ((attrsT (fun _ => true) plainS (l.drop (p + 1)) false).1, l.drop (q + 1), true) := Prod.ext rfl ha
        unfold gblockR
        rw [ha']
        simp only [nodesT_true,take_w]
        exact toG_bad (by omega)
      rw [hr]
      (refine Runs.of_step Orc.nothing 300 ?_; simp -implicitDefEqProofs only [BB,seval,effR_some,effD_some,← decide_not,okind,vpre,vpure,intBin,intPre,strBin,strPre,popTo,argSlots,fldV,fldAV,subCells,idxVV,idxAAV,idxSV,sliceV,sliceSV,boundV,szIs,storeOp,storeS,setRowV,eff,extV,buildV,splice,eqSV,fitsL,eqCells,eqCell,minmaxV,capV,binBV,nilCheckV,bytesV,V.cells,V.stays,Orc.nothing,p0,p1,p4,hiq,hs4])
      rw [eq1]
      exact retG (hsubc.updK f4)
    | true =>
      have hq1 := numB_lt hn
      have hx := fun σ => idxT σ hq1
      rw [← eq1] at hx
      have hld := sload r5 hsl
      (refine Runs.of_step Orc.nothing 300 ?_; simp -implicitDefEqProofs only [BB,seval,effR_some,effD_some,← decide_not,okind,vpre,vpure,intBin,intPre,strBin,strPre,popTo,argSlots,fldV,fldAV,subCells,idxVV,idxAAV,idxSV,sliceV,sliceSV,boundV,szIs,storeOp,storeS,setRowV,eff,extV,buildV,splice,eqSV,fitsL,eqCells,eqCell,minmaxV,capV,binBV,nilCheckV,bytesV,V.cells,V.stays,Orc.nothing,p0,p1,p5,p6,hiq,hx,hld])
      have htn : (l[q + 1]).n = tokN l (q + 1) := by simp [tokN, hq1]
      refine Go.pcallG rfl rfl rfl (gwith_c s hsl b.toNat (l[q + 1]).n sp.1 sp.2.1 sp.2.2 (by rw [← hsg]; exact hsp)) ?_
      have hsl' : (s.set sp.1 (l[q + 1]).n).length = 12 := by rw [List.length_set]; exact hsl
      have hss := sstore r5 hsl hsl'
      (refine Go.of_step Orc.nothing 300 _ _ ?_; simp -implicitDefEqProofs only [BB,seval,← decide_not,okind,vpre,vpure,intBin,intPre,strBin,strPre,popTo,argSlots,fldV,fldAV,subCells,idxVV,idxAAV,idxSV,sliceV,sliceSV,boundV,szIs,storeOp,setRowV,eff,extV,buildV,splice,eqSV,fitsL,eqCells,eqCell,minmaxV,capV,binBV,nilCheckV,bytesV,V.cells,V.stays,Orc.nothing,p1,p5,p6,hss])
      refine effR_new fun id50 σ50 s50 a50 f50 => ?_
      have hbs : bytesV σ50 (.own id50 0 1) = some (.str [b]) := by simp [bytesV, a50, bytesOf, byteOf]
      have hpre : (told.length + [b].length ≤ 9223372036854775807) = True := by simp; omega
      have hin2 : inR .i64 ((q : Int) + 2) := inR_i64 (by omega) (by omega)
      simp -implicitDefEqProofs only [BB,seval,← decide_not,okind,vpre,vpure,intBin,intPre,strBin,strPre,popTo,argSlots,fldV,fldAV,subCells,idxVV,idxAAV,idxSV,sliceV,sliceSV,boundV,szIs,storeOp,storeS,setRowV,eff,extV,buildV,splice,eqSV,fitsL,eqCells,eqCell,minmaxV,capV,binBV,nilCheckV,V.cells,V.stays,p1,p5,p6,hbs,hpre,hin2]
      refine ⟨by omega, l.length - (q + 2), by omega, told ++ [b], s.set sp.1 (l[q + 1]).n, q + 2, rfl, by omega, by simp; omega, ?_, ?_, p0, by rw [show ((q + 2 : Nat) : Int) = (q : Int) + 2 by omega], p4, rfl⟩
      · have hc := count_yes hn
        rw [hat, hT, hstep, ← hdq, hc, ← htn, avT_snoc, hsg]
      · exact { off := inv.off.upd.sub s50, r5 := s50 _ _ upd_same, len := hsl' }
end Go.Vc
namespace Go.Vc
open Go.Proofs
theorem btW : BT 52 := ⟨by kernel_rfl, by kernel_rfl⟩
theorem IsB.grow {T u8 : TypeId} {K σ σ' : Store} {id idn : Nat} {l : List UInt8} {o : Ob} (h : IsB T u8 K σ id l) (hs : SubStore σ σ') (hn : σ idn = none) (ho : σ' idn = some o) : IsB T u8 (upd K idn o) σ' id l := by
  obtain ⟨hK, hn0, a, buf, hid, ha, hout⟩ := h
  have hne : id ≠ idn := by rintro rfl; rw [hid] at hn; cases hn
  refine ⟨fun i x hx => ?_, by rw [upd_ne hne]; exact hn0, a, buf, hs _ _ hid, ha, ?_⟩
  · by_cases hi : i = idn
    · subst hi; rw [upd_same] at hx; rw [← hx]; exact ho
    · rw [upd_ne hi] at hx; exact hs _ _ (hK _ _ hx)
  · rcases hout with h1 | ⟨i, h1, h2, h3⟩
    · exact .inl h1
    · have hi1 : i ≠ id := by rintro rfl; simp [Vc.upd] at h3
      have hi2 : i ≠ idn := by rintro rfl; rw [h2] at hn; cases hn
      refine .inr ⟨i, h1, hs _ _ h2, ?_⟩
      rw [upd_ne hi1] at h3 ⊢
      rw [upd_ne hi2]; exact h3
theorem joinX_take (ns : List Int) : ∀ (i : Nat) (h : i < ns.length), joinX (ns.take (i + 1)) = joinX (ns.take i) ++ ((if 0 < i then [32] else []) ++ dg ns[i]) := by
  induction ns with
  | nil => intro i h; simp at h
  | cons a ns ih =>
    intro i h
    cases i with
    | zero => simp [joinX]
    | succ i =>
      have h' : i < ns.length := by simpa using h
      have := ih i h'
      cases ns with
      | nil => simp at h'
      | cons b ns =>
        rw [List.take_succ_cons, List.take_succ_cons, joinX]
        rw [List.take_succ_cons] at this
        rw [this]
        cases i with
        | zero => simp [joinX]
        | succ i => simp [joinX]
set_option maxRecDepth 100000 in
theorem numbers_c {K σ : Store} {id idn n : Nat} {l : List UInt8} (ns : List Int) (hns : ∀ n ∈ ns, inN n) (h : IsB 52 5 K σ id l) (hn : n = ns.length) (hK : K idn = some ⟨3, 1, ns.map vI⟩) (hl : l.length + 14 * ns.length ≤ 1000000000) :
    Contract Tryz.prog 36 [.ptr id 0 0, .own idn 0 n] σ fun r σ' => r = .tup [] ∧ IsB 52 5 K σ' id (l ++ joinX ns) := by
  subst hn
  refine Contract.of_runs Tryz.func36 e36 k36 (by simp [c36]) ?_
  refine Runs.mix 9 ?_
  (refine Runs.of_step Orc.nothing 300 ?_; simp -implicitDefEqProofs only [BB,seval,← decide_not,okind,vpre,vpure,intBin,intPre,strBin,strPre,popTo,argSlots,fldV,fldAV,subCells,idxVV,idxAAV,idxSV,sliceV,sliceSV,boundV,szIs,storeOp,storeS,setRowV,eff,extV,buildV,splice,eqSV,fitsL,eqCells,eqCell,minmaxV,capV,binBV,nilCheckV,bytesV,V.cells,V.stays,Orc.nothing,c36])
  refine Runs.loop (fun m st => ∃ i : Nat, i ≤ ns.length ∧ m = ns.length - i ∧ IsB 52 5 K st.σ id (l ++ joinX (ns.take i)) ∧ st.s 0 = .ptr id 0 0 ∧ st.s 6 = .own idn 0 ns.length ∧ st.s 7 = vI ns.length ∧ st.s 8 = vI i) ns.length ?_ ?_
  · exact ⟨0, by omega, by omega, by simpa [joinX] using h, rfl, rfl, rfl, rfl⟩
  · rintro m ⟨s, σ1⟩ ⟨i, hi, rfl, hB, h0, h6, h7, h8⟩
    simp only at h0 h6 h7 h8 hB
    refine Runs.mix 9 ?_
    have hidn := hB.sub _ _ hK
    by_cases hlt : i < ns.length
    · have hlt' : ((i : Int) < ((ns.length : Nat) : Int)) = True := by simp; omega
      have hin := hns _ (List.getElem_mem hlt)
      have hjl : (joinX (ns.take i)).length ≤ 14 * i := by
        have := joinX_len (ns := ns.take i) (fun n hn => hns n (List.mem_of_mem_take hn))
        rw [List.length_take, Nat.min_eq_left (by omega)] at this; exact this
      have hd := (dg_len hin).1
      have ht := joinX_take ns i hlt
      have hin' := hin
      unfold inN at hin'
      have hidx : idxAV σ1 1 (.own idn 0 ns.length) (vI i) = some (.ptr idn i 0) := by simp [idxAV, hidn, hlt]
      have hld : loadV σ1 false 1 (.ptr idn i 0) = some (vI ns[i]) := by simp [loadV, hidn, hlt, V.cells]
      have r1 : inR .i64 ((i : Int) + 1) := inR_i64 (by omega) (by omega)
      generalize ns[i] = v at *
      have hit : Lib.itoa v = dg v := dg_itoa (by omega)
      by_cases hi0 : 0 < i
      · have hg : ((0 : Int) < (i : Int)) = True := by simp; omega
        rw [if_pos hi0] at ht
        (refine Runs.of_step Orc.nothing 300 ?_; simp -implicitDefEqProofs only [BB,seval,← decide_not,okind,vpre,vpure,intBin,intPre,strBin,strPre,popTo,argSlots,fldV,fldAV,subCells,idxVV,idxAAV,idxSV,sliceV,sliceSV,boundV,szIs,storeOp,storeS,setRowV,eff,extV,buildV,splice,eqSV,fitsL,eqCells,eqCell,minmaxV,capV,binBV,nilCheckV,bytesV,V.cells,V.stays,Orc.nothing,h0,h6,h7,h8,hlt',hidx,hld,hg])
        refine Runs.call rfl rfl rfl (wbyte_c btW 32 32 rfl hB (by simp only [List.length_append]; omega)) ?_
        rintro r σ2 ⟨rfl, hB2⟩
        (refine Runs.of_step Orc.nothing 300 ?_; simp -implicitDefEqProofs only [BB,seval,← decide_not,okind,vpre,vpure,intBin,intPre,strBin,strPre,popTo,argSlots,fldV,fldAV,subCells,idxVV,idxAAV,idxSV,sliceV,sliceSV,boundV,szIs,storeOp,storeS,setRowV,eff,extV,buildV,splice,eqSV,fitsL,eqCells,eqCell,minmaxV,capV,binBV,nilCheckV,bytesV,V.cells,V.stays,Orc.nothing,h0,h6,h7,h8])
        refine Go.pcallG rfl rfl rfl (itoaN_c v (by omega) (by omega)) ?_
        (refine Go.of_step Orc.nothing 300 _ _ ?_; simp -implicitDefEqProofs only [BB,seval,← decide_not,okind,vpre,vpure,intBin,intPre,strBin,strPre,popTo,argSlots,fldV,fldAV,subCells,idxVV,idxAAV,idxSV,sliceV,sliceSV,boundV,szIs,storeOp,storeS,setRowV,eff,extV,buildV,splice,eqSV,fitsL,eqCells,eqCell,minmaxV,capV,binBV,nilCheckV,bytesV,V.cells,V.stays,Orc.nothing,h0,h6,h7,h8])
        refine Runs.call rfl rfl rfl (wstr_c btW (Lib.itoa v) hB2 (by rw [hit]; simp only [List.length_append,List.length_cons,List.length_nil]; omega)) ?_
        rintro r σ3 ⟨rfl, hB3⟩
        (refine Runs.of_step Orc.nothing 300 ?_; simp -implicitDefEqProofs only [BB,seval,← decide_not,okind,vpre,vpure,intBin,intPre,strBin,strPre,popTo,argSlots,fldV,fldAV,subCells,idxVV,idxAAV,idxSV,sliceV,sliceSV,boundV,szIs,storeOp,storeS,setRowV,eff,extV,buildV,splice,eqSV,fitsL,eqCells,eqCell,minmaxV,capV,binBV,nilCheckV,bytesV,V.cells,V.stays,Orc.nothing,h0,h6,h7,h8,r1])
        refine ⟨_, by omega, i + 1, by omega, rfl, ?_, by simp⟩
        rw [ht, ← hit]
        simpa using hB3
      · have hi00 : i = 0 := by omega
        have hg : ((0 : Int) < (i : Int)) = False := by simp; omega
        rw [if_neg hi0] at ht
        (refine Runs.of_step Orc.nothing 300 ?_; simp -implicitDefEqProofs only [BB,seval,← decide_not,okind,vpre,vpure,intBin,intPre,strBin,strPre,popTo,argSlots,fldV,fldAV,subCells,idxVV,idxAAV,idxSV,sliceV,sliceSV,boundV,szIs,storeOp,storeS,setRowV,eff,extV,buildV,splice,eqSV,fitsL,eqCells,eqCell,minmaxV,capV,binBV,nilCheckV,bytesV,V.cells,V.stays,Orc.nothing,h0,h6,h7,h8,hlt',hidx,hld,hg])
        refine Go.pcallG rfl rfl rfl (itoaN_c v (by omega) (by omega)) ?_
        (refine Go.of_step Orc.nothing 300 _ _ ?_; simp -implicitDefEqProofs only [BB,seval,← decide_not,okind,vpre,vpure,intBin,intPre,strBin,strPre,popTo,argSlots,fldV,fldAV,subCells,idxVV,idxAAV,idxSV,sliceV,sliceSV,boundV,szIs,storeOp,storeS,setRowV,eff,extV,buildV,splice,eqSV,fitsL,eqCells,eqCell,minmaxV,capV,binBV,nilCheckV,bytesV,V.cells,V.stays,Orc.nothing,h0,h6,h7,h8])
        refine Runs.call rfl rfl rfl (wstr_c btW (Lib.itoa v) hB (by rw [hit]; simp only [List.length_append]; omega)) ?_
        rintro r σ3 ⟨rfl, hB3⟩
        (refine Runs.of_step Orc.nothing 300 ?_; simp -implicitDefEqProofs only [BB,seval,← decide_not,okind,vpre,vpure,intBin,intPre,strBin,strPre,popTo,argSlots,fldV,fldAV,subCells,idxVV,idxAAV,idxSV,sliceV,sliceSV,boundV,szIs,storeOp,storeS,setRowV,eff,extV,buildV,splice,eqSV,fitsL,eqCells,eqCell,minmaxV,capV,binBV,nilCheckV,bytesV,V.cells,V.stays,Orc.nothing,h0,h6,h7,h8,r1])
        refine ⟨_, by omega, i + 1, by omega, rfl, ?_, by simp⟩
        rw [ht, ← hit]
        simpa using hB3
    · have hi' : i = ns.length := by omega
      subst hi'
      have hlt' : (((ns.length : Nat) : Int) < ((ns.length : Nat) : Int)) = False := by simp
      rw [List.take_length] at hB
      (refine Runs.of_step Orc.nothing 300 ?_; simp -implicitDefEqProofs only [BB,seval,← decide_not,okind,vpre,vpure,intBin,intPre,strBin,strPre,popTo,argSlots,fldV,fldAV,subCells,idxVV,idxAAV,idxSV,sliceV,sliceSV,boundV,szIs,storeOp,storeS,setRowV,eff,extV,buildV,splice,eqSV,fitsL,eqCells,eqCell,minmaxV,capV,binBV,nilCheckV,bytesV,V.cells,V.stays,Orc.nothing,h0,h6,h7,h8,hlt'])
      exact ⟨_, _, SubStore.refl _, Wk.refl (SubStore.refl _) _, rfl, hB⟩
end Go.Vc
namespace Go.Vc
open Go.Proofs
def attV (s : List Int) (j : Nat) : List V := [.int .u8 (lettersB.getD j 0).toNat, vI (s.getD j 0), vI (plainS.getD j 0)]
def tabV (s : List Int) : List V := attV s 0 ++ (attV s 1 ++ (attV s 2 ++ (attV s 3 ++ (attV s 4 ++ (attV s 5 ++ (attV s 6 ++ (attV s 7 ++ (attV s 8 ++ (attV s 9 ++ (attV s 10 ++ attV s 11))))))))))
set_option maxRecDepth 100000 in
set_option maxHeartbeats 1000000 in
theorem table_c (s : List Int) (h : s.length = 12) : PFun Tryz.prog 35 [.agg (s.map vI)] (.agg (tabV s)) := fun σ => by
  obtain ⟨a0, a1, a2, a3, a4, a5, a6, a7, a8, a9, a10, a11, rfl⟩ : ∃ a0 a1 a2 a3 a4 a5 a6 a7 a8 a9 a10 a11, s = [a0, a1, a2, a3, a4, a5, a6, a7, a8, a9, a10, a11] := by
    match s, h with
    | [a0, a1, a2, a3, a4, a5, a6, a7, a8, a9, a10, a11], _ => exact ⟨_, _, _, _, _, _, _, _, _, _, _, _, rfl⟩
  refine Contract.of_runs Tryz.func35 e35 k35 (by simp [c35]) ?_
  refine Runs.mix 9 ?_
  (refine Runs.of_step Orc.nothing 300 ?_; simp -implicitDefEqProofs only [BB,seval,← decide_not,okind,vpre,vpure,intBin,intPre,strBin,strPre,popTo,argSlots,fldV,fldAV,subCells,idxVV,idxAAV,idxSV,sliceV,sliceSV,boundV,szIs,storeOp,storeS,setRowV,eff,extV,buildV,splice,eqSV,fitsL,eqCells,eqCell,minmaxV,capV,binBV,nilCheckV,bytesV,V.cells,V.stays,Orc.nothing,c35])
  refine effR_new fun id1 σ1 s1 r1 f1 => ?_
  simp -implicitDefEqProofs only [BB,seval,← decide_not,okind,vpre,vpure,intBin,intPre,strBin,strPre,popTo,argSlots,fldV,fldAV,subCells,idxVV,idxAAV,idxSV,sliceV,sliceSV,boundV,szIs,storeOp,storeS,setRowV,eff,extV,buildV,splice,eqSV,fitsL,eqCells,eqCell,minmaxV,capV,binBV,nilCheckV,bytesV,V.cells,V.stays,r1]
  refine effR_new fun id2 σ2 s2 r2 f2 => ?_
  have r1' := s2 _ _ r1
  have n12 : id1 ≠ id2 := ne_new r1 f2
  simp -implicitDefEqProofs only [BB,seval,← decide_not,okind,vpre,vpure,intBin,intPre,strBin,strPre,popTo,argSlots,fldV,fldAV,subCells,idxVV,idxAAV,idxSV,sliceV,sliceSV,boundV,szIs,storeOp,storeS,setRowV,eff,extV,buildV,splice,eqSV,fitsL,eqCells,eqCell,minmaxV,capV,binBV,nilCheckV,bytesV,V.cells,V.stays,r1',r2]
  refine Runs.pcall rfl rfl rfl (plain_c _) ?_
  (refine Runs.of_step Orc.nothing 300 ?_; simp -implicitDefEqProofs only [BB,seval,← decide_not,okind,vpre,vpure,intBin,intPre,strBin,strPre,popTo,argSlots,fldV,fldAV,subCells,idxVV,idxAAV,idxSV,sliceV,sliceSV,boundV,szIs,storeOp,storeS,setRowV,eff,extV,buildV,splice,eqSV,fitsL,eqCells,eqCell,minmaxV,capV,binBV,nilCheckV,bytesV,V.cells,V.stays,Orc.nothing,r1',r2])
  refine effR_new fun id3 σ3 s3 r3 f3 => ?_
  have r1'' := s3 _ _ r1'
  have r2' := s3 _ _ r2
  have n13 : id1 ≠ id3 := ne_new r1' f3
  have n23 : id2 ≠ id3 := ne_new r2 f3
  simp -implicitDefEqProofs only [BB,seval,← decide_not,okind,vpre,vpure,intBin,intPre,strBin,strPre,popTo,argSlots,fldV,fldAV,subCells,idxVV,idxAAV,idxSV,sliceV,sliceSV,boundV,szIs,storeOp,storeS,setRowV,eff,extV,buildV,splice,eqSV,fitsL,eqCells,eqCell,minmaxV,capV,binBV,nilCheckV,bytesV,V.cells,V.stays,r1'',r2',r3,upd_ne n13,upd_ne n23]
  exact .pure (((s1.trans (s2.trans s3)).updK ((s1.trans s2).none f3)).updK (s1.none f2)) rfl
theorem tab_idx (s : List Int) (j : Nat) (hj : j < 12) : idxVV true 12 3 (.agg (tabV s)) (vI j) = some (.agg (attV s j)) := by
  match j, hj with
  | 0, _ | 1, _ | 2, _ | 3, _ | 4, _ | 5, _ | 6, _ | 7, _ | 8, _ | 9, _ | 10, _ | 11, _ => rfl
set_option maxRecDepth 100000 in
theorem begin_c {K σ : Store} {id : Nat} {l : List UInt8} (s : List Int) (hs : s.length = 12) (hin : ∀ j, inN (s.getD j 0)) (h : IsB 52 5 K σ id l) (hl : l.length ≤ 900000000 - 1000) :
    Contract Tryz.prog 17 [.ptr id 0 0, .agg (s.map vI)] σ fun r σ' => r = .tup [] ∧ IsB 52 5 K σ' id (l ++ (91 :: attX s 12 0)) := by
  have hcl : (s.map vI).length = 12 := by simp [hs]
  have hst : (s.map vI).all V.stays = true := by simp [V.stays]
  refine Contract.of_runs Tryz.func17 e17 k17 (by simp [c17]) ?_
  refine Runs.mix 13 ?_
  (refine Runs.of_step Orc.nothing 300 ?_; simp -implicitDefEqProofs only [BB,seval,← decide_not,okind,vpre,vpure,intBin,intPre,strBin,strPre,popTo,argSlots,fldV,fldAV,subCells,idxVV,idxAAV,idxSV,sliceV,sliceSV,boundV,szIs,storeOp,storeS,setRowV,eff,extV,buildV,splice,eqSV,fitsL,eqCells,eqCell,minmaxV,capV,binBV,nilCheckV,bytesV,V.cells,V.stays,Orc.nothing,c17,hcl,hst])
  refine effR_new fun id1 σ1 s1 r1 f1 => ?_
  simp -implicitDefEqProofs only [BB,seval,← decide_not,okind,vpre,vpure,intBin,intPre,strBin,strPre,popTo,argSlots,fldV,fldAV,subCells,idxVV,idxAAV,idxSV,sliceV,sliceSV,boundV,szIs,storeOp,storeS,setRowV,eff,extV,buildV,splice,eqSV,fitsL,eqCells,eqCell,minmaxV,capV,binBV,nilCheckV,bytesV,V.cells,V.stays,r1,hcl]
  refine Runs.call rfl rfl rfl (wbyte_c btW 91 91 rfl (h.grow s1 f1 r1) (by omega)) ?_
  rintro r σ2 ⟨rfl, hB1⟩
  have hr2 := hB1.sub _ _ upd_same
  have hB2 := hB1.less ((SubStore.refl K).upd_new (h.sub.none f1))
  (refine Runs.of_step Orc.nothing 300 ?_; simp -implicitDefEqProofs only [BB,seval,← decide_not,okind,vpre,vpure,intBin,intPre,strBin,strPre,popTo,argSlots,fldV,fldAV,subCells,idxVV,idxAAV,idxSV,sliceV,sliceSV,boundV,szIs,storeOp,storeS,setRowV,eff,extV,buildV,splice,eqSV,fitsL,eqCells,eqCell,minmaxV,capV,binBV,nilCheckV,bytesV,V.cells,V.stays,Orc.nothing,hr2,hcl])
  refine Runs.pcall rfl rfl rfl (table_c s hs _) ?_
  (refine Runs.of_step Orc.nothing 300 ?_; simp -implicitDefEqProofs only [BB,seval,← decide_not,okind,vpre,vpure,intBin,intPre,strBin,strPre,popTo,argSlots,fldV,fldAV,subCells,idxVV,idxAAV,idxSV,sliceV,sliceSV,boundV,szIs,storeOp,storeS,setRowV,eff,extV,buildV,splice,eqSV,fitsL,eqCells,eqCell,minmaxV,capV,binBV,nilCheckV,bytesV,V.cells,V.stays,Orc.nothing])
  refine Runs.loop (fun m st => ∃ (j : Nat) (dn : List UInt8), j ≤ 12 ∧ m = 12 - j ∧ IsB 52 5 K st.σ id (l ++ (91 :: dn)) ∧ dn ++ attX s (12 - j) j = attX s 12 0 ∧ st.s 0 = .ptr id 0 0 ∧ st.s 11 = .agg (tabV s) ∧ st.s 12 = vI j) 12 ?_ ?_
  · exact ⟨0, [], by omega, by omega, by simpa using hB2, by simp, rfl, rfl, rfl⟩
  · rintro m ⟨S, σ3⟩ ⟨j, dn, hj, rfl, hB, hdn, h0, h11, h12⟩
    simp only at h0 h11 h12 hB
    refine Runs.mix 13 ?_
    have hlen := attX_len hin 12 0
    rw [← hdn, List.length_append] at hlen
    by_cases hlt : j < 12
    · have hlt' : ((j : Int) < 12) = True := by simp; omega
      have hix := tab_idx s j hlt
      have r2 : inR .i64 ((j : Int) + 1) := inR_i64 (by omega) (by omega)
      have hv := hin j
      rw [show 12 - j = (12 - (j + 1)) + 1 by omega, attX] at hdn
      unfold attV at hix
      generalize s.getD j 0 = a at *
      generalize plainS.getD j 0 = p at *
      generalize lettersB.getD j 0 = u at *
      (refine Runs.of_step Orc.nothing 300 ?_; simp -implicitDefEqProofs only [BB,seval,← decide_not,okind,vpre,vpure,intBin,intPre,strBin,strPre,popTo,argSlots,fldV,fldAV,subCells,idxAAV,idxSV,sliceV,sliceSV,boundV,szIs,storeOp,storeS,setRowV,eff,extV,buildV,splice,eqSV,fitsL,eqCells,eqCell,minmaxV,capV,binBV,nilCheckV,bytesV,V.cells,V.stays,Orc.nothing,h0,h11,h12,hlt',hix])
      refine effR_new fun id5 σ5 s5 r5 f5 => ?_
      by_cases hq : a = p
      · rw [if_pos hq] at hdn
        have hq' : (a ≠ p) = False := by simp [hq]
        simp -implicitDefEqProofs only [BB,seval,← decide_not,okind,vpre,vpure,intBin,intPre,strBin,strPre,popTo,argSlots,fldV,fldAV,subCells,idxVV,idxAAV,idxSV,sliceV,sliceSV,boundV,szIs,storeOp,storeS,setRowV,eff,extV,buildV,splice,eqSV,fitsL,eqCells,eqCell,minmaxV,capV,binBV,nilCheckV,bytesV,V.cells,V.stays,r5,h0,h11,h12,hq',r2]
        refine ⟨_, by omega, j + 1, dn, by omega, rfl, hB.mono (s5.updK f5), ?_, by simp⟩
        rw [← hdn]; simp
      · rw [if_neg hq] at hdn
        have hq' : (a ≠ p) = True := by simp [hq]
        simp -implicitDefEqProofs only [BB,seval,← decide_not,okind,vpre,vpure,intBin,intPre,strBin,strPre,popTo,argSlots,fldV,fldAV,subCells,idxVV,idxAAV,idxSV,sliceV,sliceSV,boundV,szIs,storeOp,storeS,setRowV,eff,extV,buildV,splice,eqSV,fitsL,eqCells,eqCell,minmaxV,capV,binBV,nilCheckV,bytesV,V.cells,V.stays,r5,h0,h11,h12,hq',r2]
        have hgl : (l ++ 91 :: dn).length ≤ 300000000 + 600000000 := by simp only [List.length_append,List.length_cons]; omega
        refine Runs.call rfl rfl rfl (wbyte_c btW u.toNat u rfl (hB.grow (s5.updK f5) f5 upd_same) (by omega)) ?_
        rintro r σ6 ⟨rfl, hB6⟩
        have hr6 := hB6.sub _ _ upd_same
        have hB6' := hB6.less ((SubStore.refl K).upd_new (hB.sub.none f5))
        (refine Runs.of_step Orc.nothing 300 ?_; simp -implicitDefEqProofs only [BB,seval,← decide_not,okind,vpre,vpure,intBin,intPre,strBin,strPre,popTo,argSlots,fldV,fldAV,subCells,idxVV,idxAAV,idxSV,sliceV,sliceSV,boundV,szIs,storeOp,storeS,setRowV,eff,extV,buildV,splice,eqSV,fitsL,eqCells,eqCell,minmaxV,capV,binBV,nilCheckV,bytesV,V.cells,V.stays,Orc.nothing,hr6,h0,h11,h12,r2])
        refine effR_new fun id7 σ7 s7 r7 f7 => ?_
        simp -implicitDefEqProofs only [BB,seval,← decide_not,okind,vpre,vpure,intBin,intPre,strBin,strPre,popTo,argSlots,fldV,fldAV,subCells,idxVV,idxAAV,idxSV,sliceV,sliceSV,boundV,szIs,storeOp,storeS,setRowV,eff,extV,buildV,splice,eqSV,fitsL,eqCells,eqCell,minmaxV,capV,binBV,nilCheckV,bytesV,V.cells,V.stays,r7,hr6,h0,h11,h12,r2]
        have hB7 := hB6'.grow s7 f7 r7
        refine Runs.call rfl rfl rfl (numbers_c [a] (by simpa using hv) hB7 rfl (by rw [upd_same]; rfl) (by simp only [List.length_append,List.length_cons,List.length_nil]; simp only [List.length_append,List.length_cons] at hgl; omega)) ?_
        rintro r σ8 ⟨rfl, hB8⟩
        have hB9 := hB8.less ((SubStore.refl K).upd_new (hB6'.sub.none f7))
        (refine Runs.of_step Orc.nothing 300 ?_; simp -implicitDefEqProofs only [BB,seval,← decide_not,okind,vpre,vpure,intBin,intPre,strBin,strPre,popTo,argSlots,fldV,fldAV,subCells,idxVV,idxAAV,idxSV,sliceV,sliceSV,boundV,szIs,storeOp,storeS,setRowV,eff,extV,buildV,splice,eqSV,fitsL,eqCells,eqCell,minmaxV,capV,binBV,nilCheckV,bytesV,V.cells,V.stays,Orc.nothing,h0,h11,h12,r2])
        refine ⟨_, by omega, j + 1, dn ++ (u :: dg a), by omega, rfl, ?_, ?_, by simp⟩
        · simpa [joinX] using hB9
        · rw [← hdn]; simp
    · have hj' : j = 12 := by omega
      subst hj'
      (refine Runs.of_step Orc.nothing 300 ?_; simp -implicitDefEqProofs only [BB,seval,← decide_not,okind,vpre,vpure,intBin,intPre,strBin,strPre,popTo,argSlots,fldV,fldAV,subCells,idxVV,idxAAV,idxSV,sliceV,sliceSV,boundV,szIs,storeOp,storeS,setRowV,eff,extV,buildV,splice,eqSV,fitsL,eqCells,eqCell,minmaxV,capV,binBV,nilCheckV,bytesV,V.cells,V.stays,Orc.nothing,h0,h11,h12])
      refine ⟨_, _, SubStore.refl _, Wk.refl (SubStore.refl _) _, rfl, ?_⟩
      rw [← hdn]; simpa [attX] using hB
end Go.Vc
namespace Go.Vc
open Go.Proofs
theorem nodeB_c {K σ : Store} {id : Nat} {l : List UInt8} (x : Nd) (hk : x.kind = 3) (hw : inN x.w) (hh : inN x.h) (h : IsB 52 5 K σ id l) (hl : l.length ≤ 900000000) :
    Contract Tryz.prog 19 [.ptr id 0 0, encN x] σ fun r σ' => r = .tup [] ∧ IsB 52 5 K σ' id (l ++ (123 :: (joinX [x.w, x.h] ++ [125]))) := by
  have hJ := joinX_len (ns := [x.w, x.h]) (by simp [hw, hh])
  refine Contract.of_runs Tryz.func19 e19 k19 (by simp [c19]) ?_
  refine Runs.mix 9 ?_
  (refine Runs.of_step Orc.nothing 300 ?_; simp -implicitDefEqProofs only [BB,seval,← decide_not,okind,vpre,vpure,intBin,intPre,strBin,strPre,popTo,argSlots,fldV,fldAV,subCells,idxVV,idxAAV,idxSV,sliceV,sliceSV,boundV,szIs,storeOp,storeS,setRowV,eff,extV,buildV,splice,eqSV,fitsL,eqCells,eqCell,minmaxV,capV,binBV,nilCheckV,bytesV,V.cells,V.stays,Orc.nothing,c19,encN,Nd.cells,encI])
  refine effR_new fun id1 σ1 s1 r1 f1 => ?_
  simp -implicitDefEqProofs only [BB,seval,← decide_not,okind,vpre,vpure,intBin,intPre,strBin,strPre,popTo,argSlots,fldV,fldAV,subCells,idxVV,idxAAV,idxSV,sliceV,sliceSV,boundV,szIs,storeOp,storeS,setRowV,eff,extV,buildV,splice,eqSV,fitsL,eqCells,eqCell,minmaxV,capV,binBV,nilCheckV,bytesV,V.cells,V.stays,r1,hk]
  refine Runs.call rfl rfl rfl (wbyte_c btW 123 123 rfl (h.grow s1 f1 r1) (by omega)) ?_
  rintro r σ2 ⟨rfl, hB1⟩
  have hr2 := hB1.sub _ _ upd_same
  have hB2 := hB1.less ((SubStore.refl K).upd_new (h.sub.none f1))
  (refine Runs.of_step Orc.nothing 300 ?_; simp -implicitDefEqProofs only [BB,seval,← decide_not,okind,vpre,vpure,intBin,intPre,strBin,strPre,popTo,argSlots,fldV,fldAV,subCells,idxVV,idxAAV,idxSV,sliceV,sliceSV,boundV,szIs,storeOp,storeS,setRowV,eff,extV,buildV,splice,eqSV,fitsL,eqCells,eqCell,minmaxV,capV,binBV,nilCheckV,bytesV,V.cells,V.stays,Orc.nothing,hr2])
  refine effR_new fun id3 σ3 s3 r3 f3 => ?_
  simp -implicitDefEqProofs only [BB,seval,← decide_not,okind,vpre,vpure,intBin,intPre,strBin,strPre,popTo,argSlots,fldV,fldAV,subCells,idxVV,idxAAV,idxSV,sliceV,sliceSV,boundV,szIs,storeOp,storeS,setRowV,eff,extV,buildV,splice,eqSV,fitsL,eqCells,eqCell,minmaxV,capV,binBV,nilCheckV,bytesV,V.cells,V.stays,r3,hr2]
  refine Runs.call rfl rfl rfl (numbers_c [x.w, x.h] (by simp [hw, hh]) (hB2.grow s3 f3 r3) rfl (by rw [upd_same]; rfl) (by simp only [List.length_append,List.length_cons,List.length_nil]; omega)) ?_
  rintro r σ4 ⟨rfl, hB4⟩
  have hB5 := hB4.less ((SubStore.refl K).upd_new (hB2.sub.none f3))
  (refine Runs.of_step Orc.nothing 300 ?_; simp -implicitDefEqProofs only [BB,seval,← decide_not,okind,vpre,vpure,intBin,intPre,strBin,strPre,popTo,argSlots,fldV,fldAV,subCells,idxVV,idxAAV,idxSV,sliceV,sliceSV,boundV,szIs,storeOp,storeS,setRowV,eff,extV,buildV,splice,eqSV,fitsL,eqCells,eqCell,minmaxV,capV,binBV,nilCheckV,bytesV,V.cells,V.stays,Orc.nothing])
  refine Runs.call rfl rfl rfl (wbyte_c btW 125 125 rfl hB5 (by simp only [List.length_append,List.length_cons,List.length_nil] at hJ ⊢; omega)) ?_
  rintro r σ6 ⟨rfl, hB6⟩
  (refine Runs.of_step Orc.nothing 300 ?_; simp -implicitDefEqProofs only [BB,seval,← decide_not,okind,vpre,vpure,intBin,intPre,strBin,strPre,popTo,argSlots,fldV,fldAV,subCells,idxVV,idxAAV,idxSV,sliceV,sliceSV,boundV,szIs,storeOp,storeS,setRowV,eff,extV,buildV,splice,eqSV,fitsL,eqCells,eqCell,minmaxV,capV,binBV,nilCheckV,bytesV,V.cells,V.stays,Orc.nothing])
  refine ⟨_, _, SubStore.refl _, Wk.refl (SubStore.refl _) _, rfl, ?_⟩
  simpa using hB6
theorem nodeF_c {K σ : Store} {id : Nat} {l : List UInt8} (x : Nd) (hk : x.kind = 4) (hs : x.side = 1 ∨ x.side = 2) (hw : inN x.w) (hh : inN x.h) (h : IsB 52 5 K σ id l) (hl : l.length ≤ 900000000) :
    Contract Tryz.prog 19 [.ptr id 0 0, encN x] σ fun r σ' => r = .tup [] ∧ IsB 52 5 K σ' id (l ++ (60 :: (if x.side = 2 then 82 else 76) :: (joinX [x.w, x.h] ++ [62]))) := by
  have hJ := joinX_len (ns := [x.w, x.h]) (by simp [hw, hh])
  refine Contract.of_runs Tryz.func19 e19 k19 (by simp [c19]) ?_
  refine Runs.mix 9 ?_
  rcases hs with hs | hs
  all_goals
    (refine Runs.of_step Orc.nothing 300 ?_; simp -implicitDefEqProofs only [BB,seval,← decide_not,okind,vpre,vpure,intBin,intPre,strBin,strPre,popTo,argSlots,fldV,fldAV,subCells,idxVV,idxAAV,idxSV,sliceV,sliceSV,boundV,szIs,storeOp,storeS,setRowV,eff,extV,buildV,splice,eqSV,fitsL,eqCells,eqCell,minmaxV,capV,binBV,nilCheckV,bytesV,V.cells,V.stays,Orc.nothing,c19,encN,Nd.cells,encI])
    refine effR_new fun id1 σ1 s1 r1 f1 => ?_
    simp -implicitDefEqProofs only [BB,seval,← decide_not,okind,vpre,vpure,intBin,intPre,strBin,strPre,popTo,argSlots,fldV,fldAV,subCells,idxVV,idxAAV,idxSV,sliceV,sliceSV,boundV,szIs,storeOp,storeS,setRowV,eff,extV,buildV,splice,eqSV,fitsL,eqCells,eqCell,minmaxV,capV,binBV,nilCheckV,bytesV,V.cells,V.stays,r1,hk,hs]
    refine Runs.call rfl rfl rfl (wstr_c btW _ (h.grow s1 f1 r1) (by simp only [List.length_append,List.length_cons,List.length_nil]; omega)) ?_
    rintro r σ2 ⟨rfl, hB1⟩
    have hr2 := hB1.sub _ _ upd_same
    have hB2 := hB1.less ((SubStore.refl K).upd_new (h.sub.none f1))
    (refine Runs.of_step Orc.nothing 300 ?_; simp -implicitDefEqProofs only [BB,seval,← decide_not,okind,vpre,vpure,intBin,intPre,strBin,strPre,popTo,argSlots,fldV,fldAV,subCells,idxVV,idxAAV,idxSV,sliceV,sliceSV,boundV,szIs,storeOp,storeS,setRowV,eff,extV,buildV,splice,eqSV,fitsL,eqCells,eqCell,minmaxV,capV,binBV,nilCheckV,bytesV,V.cells,V.stays,Orc.nothing,hr2])
    refine effR_new fun id3 σ3 s3 r3 f3 => ?_
    simp -implicitDefEqProofs only [BB,seval,← decide_not,okind,vpre,vpure,intBin,intPre,strBin,strPre,popTo,argSlots,fldV,fldAV,subCells,idxVV,idxAAV,idxSV,sliceV,sliceSV,boundV,szIs,storeOp,storeS,setRowV,eff,extV,buildV,splice,eqSV,fitsL,eqCells,eqCell,minmaxV,capV,binBV,nilCheckV,bytesV,V.cells,V.stays,r3,hr2]
    refine Runs.call rfl rfl rfl (numbers_c [x.w, x.h] (by simp [hw, hh]) (hB2.grow s3 f3 r3) rfl (by rw [upd_same]; rfl) (by simp only [List.length_append,List.length_cons,List.length_nil]; omega)) ?_
    rintro r σ4 ⟨rfl, hB4⟩
    have hB5 := hB4.less ((SubStore.refl K).upd_new (hB2.sub.none f3))
    (refine Runs.of_step Orc.nothing 300 ?_; simp -implicitDefEqProofs only [BB,seval,← decide_not,okind,vpre,vpure,intBin,intPre,strBin,strPre,popTo,argSlots,fldV,fldAV,subCells,idxVV,idxAAV,idxSV,sliceV,sliceSV,boundV,szIs,storeOp,storeS,setRowV,eff,extV,buildV,splice,eqSV,fitsL,eqCells,eqCell,minmaxV,capV,binBV,nilCheckV,bytesV,V.cells,V.stays,Orc.nothing])
    refine Runs.call rfl rfl rfl (wbyte_c btW 62 62 rfl hB5 (by simp only [List.length_append,List.length_cons,List.length_nil] at hJ ⊢; omega)) ?_
    rintro r σ6 ⟨rfl, hB6⟩
    (refine Runs.of_step Orc.nothing 300 ?_; simp -implicitDefEqProofs only [BB,seval,← decide_not,okind,vpre,vpure,intBin,intPre,strBin,strPre,popTo,argSlots,fldV,fldAV,subCells,idxVV,idxAAV,idxSV,sliceV,sliceSV,boundV,szIs,storeOp,storeS,setRowV,eff,extV,buildV,splice,eqSV,fitsL,eqCells,eqCell,minmaxV,capV,binBV,nilCheckV,bytesV,V.cells,V.stays,Orc.nothing])
    refine ⟨_, _, SubStore.refl _, Wk.refl (SubStore.refl _) _, rfl, ?_⟩
    simpa [hs] using hB6
theorem nodeT_c {K σ : Store} {id : Nat} {l : List UInt8} (x : Nd) (hk : x.kind = 2) (hn : ∀ n ∈ x.line :: x.space :: x.words, inN n) (hm : x.words.length ≤ 100000000) (h : IsB 52 5 K σ id l) (hl : l.length + 14 * x.words.length ≤ 900000000) :
    Contract Tryz.prog 19 [.ptr id 0 0, encN x] σ fun r σ' => r = .tup [] ∧ IsB 52 5 K σ' id (l ++ (40 :: (joinX (x.line :: x.space :: x.words) ++ [41]))) := by
  have hJ := joinX_len hn
  refine Contract.of_runs Tryz.func19 e19 k19 (by simp [c19]) ?_
  refine Runs.mix 9 ?_
  (refine Runs.of_step Orc.nothing 300 ?_; simp -implicitDefEqProofs only [BB,seval,← decide_not,okind,vpre,vpure,intBin,intPre,strBin,strPre,popTo,argSlots,fldV,fldAV,subCells,idxVV,idxAAV,idxSV,sliceV,sliceSV,boundV,szIs,storeOp,storeS,setRowV,eff,extV,buildV,splice,eqSV,fitsL,eqCells,eqCell,minmaxV,capV,binBV,nilCheckV,bytesV,V.cells,V.stays,Orc.nothing,c19,encN,Nd.cells,encI])
  refine effR_new fun id1 σ1 s1 r1 f1 => ?_
  simp -implicitDefEqProofs only [BB,seval,← decide_not,okind,vpre,vpure,intBin,intPre,strBin,strPre,popTo,argSlots,fldV,fldAV,subCells,idxVV,idxAAV,idxSV,sliceV,sliceSV,boundV,szIs,storeOp,storeS,setRowV,eff,extV,buildV,splice,eqSV,fitsL,eqCells,eqCell,minmaxV,capV,binBV,nilCheckV,bytesV,V.cells,V.stays,r1,hk]
  refine Runs.call rfl rfl rfl (wbyte_c btW 40 40 rfl (h.grow s1 f1 r1) (by omega)) ?_
  rintro r σ2 ⟨rfl, hB1⟩
  have hr2 := hB1.sub _ _ upd_same
  have hB2 := hB1.less ((SubStore.refl K).upd_new (h.sub.none f1))
  (refine Runs.of_step Orc.nothing 300 ?_; simp -implicitDefEqProofs only [BB,seval,← decide_not,okind,vpre,vpure,intBin,intPre,strBin,strPre,popTo,argSlots,fldV,fldAV,subCells,idxVV,idxAAV,idxSV,sliceV,sliceSV,boundV,szIs,storeOp,storeS,setRowV,eff,extV,buildV,splice,eqSV,fitsL,eqCells,eqCell,minmaxV,capV,binBV,nilCheckV,bytesV,V.cells,V.stays,Orc.nothing,hr2])
  refine effR_new fun id3 σ3 s3 r3 f3 => ?_
  have hr3 := s3 _ _ hr2
  have hO : OutV σ2 σ3 3 1 (.own id3 0 2) [vI x.line, vI x.space] := .inr ⟨id3, rfl, r3, f3⟩
  obtain ⟨idA, hda, hdel⟩ := hO.dst (SubStore.refl σ3)
  have hsr : srcRows σ3 1 (.sl 1 (x.words.map vI)) = some (x.words.map vI) := rfl
  have hb2 : (2 + x.words.length) * 9 ≤ 140737488355328 := by omega
  simp -implicitDefEqProofs only [BB,seval,← decide_not,okind,vpre,vpure,intBin,intPre,strBin,strPre,popTo,argSlots,fldV,fldAV,subCells,idxVV,idxAAV,idxSV,sliceV,sliceSV,boundV,szIs,storeOp,storeS,setRowV,eff,extV,buildV,splice,eqSV,fitsL,eqCells,eqCell,minmaxV,capV,binBV,nilCheckV,bytesV,V.cells,V.stays,r3,hr3,hda,hsr,List.length_map,hb2]
  refine effR_put fun id4 σ4 s4 r4 f4 => ?_
  have k4 := (hdel _ (SubStore.refl _) σ3 s3).trans s4
  have f4' := s3.none f4
  simp -implicitDefEqProofs only [BB,seval,← decide_not,okind,vpre,vpure,intBin,intPre,strBin,strPre,popTo,argSlots,fldV,fldAV,subCells,idxVV,idxAAV,idxSV,sliceV,sliceSV,boundV,szIs,storeOp,storeS,setRowV,eff,extV,buildV,splice,eqSV,fitsL,eqCells,eqCell,minmaxV,capV,binBV,nilCheckV,bytesV,V.cells,V.stays]
  refine Runs.call rfl rfl rfl (numbers_c (x.line :: x.space :: x.words) hn (hB2.grow k4 f4' r4) (by simp only [List.length_cons]; omega) (by rw [upd_same]; simp) (by simp only [List.length_append,List.length_cons,List.length_nil]; omega)) ?_
  rintro r σ5 ⟨rfl, hB5⟩
  have hB6 := hB5.less ((SubStore.refl K).upd_new (hB2.sub.none f4'))
  (refine Runs.of_step Orc.nothing 300 ?_; simp -implicitDefEqProofs only [BB,seval,← decide_not,okind,vpre,vpure,intBin,intPre,strBin,strPre,popTo,argSlots,fldV,fldAV,subCells,idxVV,idxAAV,idxSV,sliceV,sliceSV,boundV,szIs,storeOp,storeS,setRowV,eff,extV,buildV,splice,eqSV,fitsL,eqCells,eqCell,minmaxV,capV,binBV,nilCheckV,bytesV,V.cells,V.stays,Orc.nothing])
  refine Runs.call rfl rfl rfl (wbyte_c btW 41 41 rfl hB6 (by simp only [List.length_append,List.length_cons,List.length_nil] at hJ ⊢; omega)) ?_
  rintro r σ7 ⟨rfl, hB7⟩
  (refine Runs.of_step Orc.nothing 300 ?_; simp -implicitDefEqProofs only [BB,seval,← decide_not,okind,vpre,vpure,intBin,intPre,strBin,strPre,popTo,argSlots,fldV,fldAV,subCells,idxVV,idxAAV,idxSV,sliceV,sliceSV,boundV,szIs,storeOp,storeS,setRowV,eff,extV,buildV,splice,eqSV,fitsL,eqCells,eqCell,minmaxV,capV,binBV,nilCheckV,bytesV,V.cells,V.stays,Orc.nothing])
  refine ⟨_, _, SubStore.refl _, Wk.refl (SubStore.refl _) _, rfl, ?_⟩
  simpa using hB7
end Go.Vc
namespace Go.Vc
open Go.Proofs
theorem wnode_c {K σ : Store} {id : Nat} {l : List UInt8} (y : Shp) (hy : ∀ s i, y ≠ .block s i) (hok : okS y) (h : IsB 52 5 K σ id l) (hl : l.length + costs (toldS y) ≤ 900000000) :
    Contract Tryz.prog 19 [.ptr id 0 0, encN (ndS y)] σ fun r σ' => r = .tup [] ∧ IsB 52 5 K σ' id (l ++ txtS y) := by
  cases y
  · rename_i w h'
    exact nodeB_c (ndS (.box w h')) rfl (inN_of hok.1) (inN_of hok.2) h (by omega)
  · exact absurd rfl (hy _ _)
  · rename_i ns
    obtain ⟨a, b, c, r, rfl, ha, hb, hc, hr⟩ := hok
    have hin := (okT_in (ns := a :: b :: c :: r) ⟨a, b, c, r, rfl, ha, hb, hc, hr⟩).1
    simp only [toldS,costs,costN,ndS,List.drop_succ_cons,List.drop_zero] at hl
    exact nodeT_c (ndS (.text (a :: b :: c :: r))) rfl hin (by simp only [ndS,List.drop_succ_cons,List.drop_zero]; omega) h (by simp only [ndS,List.drop_succ_cons,List.drop_zero]; omega)
  · rename_i w h' d
    have := nodeF_c (ndS (.float w h' d)) rfl hok.2.2 (inN_of hok.1) (inN_of hok.2.1) h (by omega)
    exact this
theorem toldS_one {y : Shp} (h : ∀ s i, y ≠ .block s i) : toldS y = [ndS y] ∧ ((ndS y).kind = 1) = False ∧ (ndS y).size = 1 := by
  cases y
  · simp [toldS, ndS]
  · exact absurd rfl (h _ _)
  · simp [toldS, ndS]
  · simp [toldS, ndS]
theorem sliceV_fromA {σ : Store} {l : List Nd} {s : Int} (h1 : 0 ≤ s) (h2 : s ≤ l.length) :
    sliceV σ 20 (encNs l) (some (.int .i64 s)) none none = some (encNs (l.drop s.toNat)) := by
  simp only [encNs,sliceV,boundV,List.length_map]
  rw [if_pos ⟨h1, h2, Int.le_refl _, Int.le_refl _, trivial⟩]
  simp only [V.sl.injEq,Option.some.injEq,true_and]
  rw [List.map_drop, List.take_of_length_le]
  simp
theorem sliceV_encA {σ : Store} {l : List Nd} {s e : Int} (h1 : 0 ≤ s) (h2 : s ≤ e) (h3 : e ≤ l.length) :
    sliceV σ 20 (encNs l) (some (.int .i64 s)) (some (.int .i64 e)) none = some (encNs ((l.drop s.toNat).take (e.toNat - s.toNat))) := by
  simp only [encNs,sliceV,boundV,List.length_map]
  rw [if_pos ⟨h1, h2, h3, Int.le_refl _, trivial⟩]
  simp [List.map_take, List.map_drop]
theorem txtL_append (e : List UInt8) (a b : List Shp) : txtL e (a ++ b) = txtL e a ++ txtL e b := by
  induction a with
  | nil => simp [txtL]
  | cons x a ih => simp [txtL, ih]
theorem okSs_left {a b : List Shp} (h : okSs (a ++ b)) : okSs a := by
  induction a with
  | nil => trivial
  | cons x a ih => exact ⟨h.1, ih h.2⟩
theorem okSs_right {a b : List Shp} (h : okSs (a ++ b)) : okSs b := by
  induction a with
  | nil => exact h
  | cons x a ih => exact ih h.2
set_option maxRecDepth 100000 in
theorem wall_c {id idf : Nat} {ef : TypeId} : ∀ (m : Nat) (K : Store), K idf = some ⟨ef, 1, [.fn 16 [.ptr id 0 0, .ptr idf 0 0]]⟩ → ∀ (xs : List Shp), (toldL xs).length < m → okSs xs → ∀ (e b : List UInt8) (σ : Store), e.length ≤ 1 → b.length + costs (toldL xs) ≤ 800000000 →
    (toldL xs).length ≤ 100000000 → IsB 52 5 K σ id b →
    Contract Tryz.prog 16 [encNs (toldL xs), .str e, .ptr id 0 0, .ptr idf 0 0] σ fun r σ' => r = .tup [] ∧ IsB 52 5 K σ' id (b ++ txtL e xs) ∧ (xs = [] → σ' = σ) := by
  intro m
  induction m with
  | zero => intro K hf xs hm; omega
  | succ m ih => ?_
  intro K hf xs hm hok e b σ he hb hbig h
  refine Contract.of_runs Tryz.func16 e16 k16 (by simp [c16]) ?_
  refine Runs.mix 6 ?_
  (refine Runs.of_step Orc.nothing 300 ?_; simp -implicitDefEqProofs only [BB,seval,← decide_not,okind,vpre,vpure,intBin,intPre,strBin,strPre,popTo,argSlots,fldV,fldAV,subCells,idxVV,idxAAV,idxSV,sliceV,sliceSV,boundV,szIs,storeOp,storeS,setRowV,eff,extV,buildV,splice,eqSV,fitsL,eqCells,eqCell,minmaxV,capV,binBV,nilCheckV,bytesV,V.cells,V.stays,Orc.nothing,c16])
  refine Runs.loop (fun q st => ∃ dn rs : List Shp, xs = dn ++ rs ∧ q = rs.length ∧ IsB 52 5 K st.σ id (b ++ txtL e dn) ∧ (dn = [] → st.σ = σ) ∧ st.s 0 = encNs (toldL rs) ∧ st.s 1 = .str e ∧ st.s 2 = .ptr id 0 0 ∧ st.s 3 = .ptr idf 0 0) xs.length ?_ ?_
  · exact ⟨[], xs, rfl, rfl, by simpa [txtL] using h, fun _ => rfl, rfl, rfl, rfl, rfl⟩
  rintro q ⟨S, σ1⟩ ⟨dn, rs, rfl, rfl, hB, hsame, h0, h1, h2, h3⟩
  simp only at h0 h1 h2 h3 hB hsame
  refine Runs.mix 6 ?_
  cases rs with
  | nil =>
    (refine Runs.of_step Orc.nothing 300 ?_; simp -implicitDefEqProofs only [BB,seval,← decide_not,okind,vpre,vpure,intBin,intPre,strBin,strPre,popTo,argSlots,fldV,fldAV,subCells,idxVV,idxAAV,idxSV,sliceV,sliceSV,boundV,szIs,storeOp,storeS,setRowV,eff,extV,buildV,splice,eqSV,fitsL,eqCells,eqCell,minmaxV,capV,binBV,nilCheckV,bytesV,V.cells,V.stays,Orc.nothing,h0,h1,h2,h3,toldL,encNs,lenV_sl])
    refine ⟨_, _, SubStore.refl _, Wk.refl (SubStore.refl _) _, rfl, by simpa using hB, fun e => hsame (by simpa using e)⟩
  | cons y rs =>
    obtain ⟨hoky, hokr⟩ := okSs_right hok
    have hcst := hb
    rw [toldL_append, toldL, costs_app, costs_app] at hcst
    have hdl := txtL_len dn (okSs_left hok) e he
    have hbig' := hbig
    rw [toldL_append, toldL, List.length_append, List.length_append] at hbig'
    have hidf := hB.sub _ _ hf
    have hnext : dn ++ y :: rs = (dn ++ [y]) ++ rs := by simp
    have htxt : txtL e (dn ++ [y]) = txtL e dn ++ (txtS y ++ e) := by rw [txtL_append]; simp [txtL]
    by_cases hy : ∃ s i, y = .block s i
    · obtain ⟨s, inner, rfl⟩ := hy
      have hL : toldL (.block s inner :: rs) = { ndS (.block s inner) with size := 1 + ((toldL inner).length : Int) } :: (toldL inner ++ toldL rs) := by rw [toldL, toldS]; rfl
      have htl := attX_len (okL_in hoky.1.2) 12 0
      have hcin : 400 + costs (toldL inner) ≤ costs (toldS (.block s inner)) := by simp [toldS, costs, costN]
      have hli : (toldL inner).length + 1 ≤ (toldS (.block s inner)).length := by simp [toldS]
      have htin := txtL_len inner hoky.2 [] (by simp)
      have hmi : (toldL inner).length < m := by rw [toldL_append, toldL, List.length_append, List.length_append] at hm; omega
      rw [hL] at h0
      have hbegin : ∀ (v : V), v = .ptr id 0 0 → ∀ (K σ : Store) (l : List UInt8), IsB 52 5 K σ id l → l.length ≤ 900000000 - 1000 → Contract Tryz.prog 17 [v, .agg (styL s).cells] σ fun r σ' => r = .tup [] ∧ IsB 52 5 K σ' id (l ++ (91 :: attX s 12 0)) := fun v hv K σ l h hl => by
        rw [hv, ← styL_cells hoky.1.1]; exact begin_c s hoky.1.1 (okL_in hoky.1.2) h hl
      have t4 : styL s = ({ ndS (.block s inner) with size := 1 + ((toldL inner).length : Int) } : Nd).st := rfl
      have t3 : ({ ndS (.block s inner) with size := 1 + ((toldL inner).length : Int) } : Nd).size = 1 + ((toldL inner).length : Int) := rfl
      have t2 : (({ ndS (.block s inner) with size := 1 + ((toldL inner).length : Int) } : Nd).kind = 1) = True := eq_true rfl
      rw [t4] at hbegin
      clear t4
      generalize ({ ndS (.block s inner) with size := 1 + ((toldL inner).length : Int) } : Nd) = x at *
      have hidx : ∀ σ, idxAV σ 20 (encNs (x :: (toldL inner ++ toldL rs))) (.int .i64 0) = some (.rp (.agg x.cells)) := fun σ => idxAV_encNs (i := 0) (by simp)
      have hlen : ((((toldL inner ++ toldL rs).length + 1 : Nat) : Int) > 0) = True := eq_true (by omega)
      have hsl : ∀ σ, sliceV σ 20 (encNs (x :: (toldL inner ++ toldL rs))) (some (.int .i64 1)) (some (.int .i64 x.size)) none = some (encNs (toldL inner)) := fun σ => by
        rw [sliceV_encA (by omega) (by omega) (by rw [t3]; simp; omega), t3]
        rw [show (1 + ((toldL inner).length : Int)).toNat - (1 : Int).toNat = (toldL inner).length by omega]
        simp
      have hsf : ∀ σ, sliceV σ 20 (encNs (x :: (toldL inner ++ toldL rs))) (some (.int .i64 x.size)) none none = some (encNs (toldL rs)) := fun σ => by
        rw [sliceV_fromA (by omega) (by rw [t3]; simp; omega), t3]
        rw [show (1 + ((toldL inner).length : Int)).toNat = (toldL inner).length + 1 by omega]
        simp
      generalize toldL inner ++ toldL rs = tl at *
      (refine Runs.of_step Orc.nothing 300 ?_; simp -implicitDefEqProofs only [BB,seval,← decide_not,okind,vpre,vpure,intBin,intPre,strBin,strPre,popTo,argSlots,fldV,fldAV,subCells,idxVV,idxAAV,idxSV,sliceSV,boundV,szIs,storeOp,storeS,setRowV,eff,extV,buildV,splice,eqSV,fitsL,eqCells,eqCell,minmaxV,capV,binBV,nilCheckV,bytesV,V.cells,V.stays,Orc.nothing,h0,h1,h2,h3,lenV_encNs,hlen,hidx,loadV_rp_node,encN,Nd.cells,encI])
      refine effR_new fun id6 σ6 s6 r6 f6 => ?_
      have hne : idf ≠ id6 := ne_new hidf f6
      simp -implicitDefEqProofs only [BB,seval,← decide_not,okind,vpre,vpure,intBin,intPre,strBin,strPre,popTo,argSlots,fldV,fldAV,subCells,idxVV,idxAAV,idxSV,sliceSV,boundV,szIs,storeOp,storeS,setRowV,eff,extV,buildV,splice,eqSV,fitsL,eqCells,eqCell,minmaxV,capV,binBV,nilCheckV,bytesV,V.cells,V.stays,r6,h0,h1,h2,h3,t2]
      refine Runs.call rfl rfl rfl (hbegin _ h2 _ _ _ (hB.grow (s6.updK f6) f6 upd_same) (by simp only [List.length_append]; omega)) ?_
      rintro r σ7 ⟨rfl, hB7⟩
      have hr7 := hB7.sub _ _ upd_same
      have hf7 := hB7.sub idf _ (by rw [upd_ne hne]; exact hf)
      (refine Runs.of_step Orc.nothing 300 ?_; simp -implicitDefEqProofs only [BB,seval,← decide_not,okind,vpre,vpure,intBin,intPre,strBin,strPre,popTo,argSlots,fldV,fldAV,subCells,idxVV,idxAAV,idxSV,sliceSV,boundV,szIs,storeOp,storeS,setRowV,eff,extV,buildV,splice,eqSV,fitsL,eqCells,eqCell,minmaxV,capV,binBV,nilCheckV,bytesV,V.cells,V.stays,Orc.nothing,hr7,hf7,h0,h1,h2,h3,hsl])
      refine Runs.call rfl rfl rfl (ih _ (by rw [upd_ne hne]; exact hf) inner hmi hoky.2 [] _ _ (by simp) (by simp only [List.length_append,List.length_cons]; omega) (by omega) hB7) ?_
      rintro r σ8 ⟨rfl, hB8, -⟩
      (refine Runs.of_step Orc.nothing 300 ?_; simp -implicitDefEqProofs only [BB,seval,← decide_not,okind,vpre,vpure,intBin,intPre,strBin,strPre,popTo,argSlots,fldV,fldAV,subCells,idxVV,idxAAV,idxSV,sliceSV,boundV,szIs,storeOp,storeS,setRowV,eff,extV,buildV,splice,eqSV,fitsL,eqCells,eqCell,minmaxV,capV,binBV,nilCheckV,bytesV,V.cells,V.stays,Orc.nothing,h0,h1,h2,h3])
      refine Runs.call rfl rfl rfl (wbyte_c btW 93 93 rfl hB8 (by simp only [List.length_append,List.length_cons]; omega)) ?_
      rintro r σ9 ⟨rfl, hB9⟩
      (refine Runs.of_step Orc.nothing 300 ?_; simp -implicitDefEqProofs only [BB,seval,← decide_not,okind,vpre,vpure,intBin,intPre,strBin,strPre,popTo,argSlots,fldV,fldAV,subCells,idxVV,idxAAV,idxSV,sliceSV,boundV,szIs,storeOp,storeS,setRowV,eff,extV,buildV,splice,eqSV,fitsL,eqCells,eqCell,minmaxV,capV,binBV,nilCheckV,bytesV,V.cells,V.stays,Orc.nothing,h0,h1,h2,h3])
      refine Runs.call rfl rfl rfl (wstr_c btW e hB9 (by simp only [List.length_append,List.length_cons,List.length_nil]; omega)) ?_
      rintro r σ10 ⟨rfl, hB10⟩
      have hr10 := hB10.sub _ _ upd_same
      have hB11 := hB10.less ((SubStore.refl K).upd_new (hB.sub.none f6))
      (refine Runs.of_step Orc.nothing 300 ?_; simp -implicitDefEqProofs only [BB,seval,← decide_not,okind,vpre,vpure,intBin,intPre,strBin,strPre,popTo,argSlots,fldV,fldAV,subCells,idxVV,idxAAV,idxSV,sliceSV,boundV,szIs,storeOp,storeS,setRowV,eff,extV,buildV,splice,eqSV,fitsL,eqCells,eqCell,minmaxV,capV,binBV,nilCheckV,bytesV,V.cells,V.stays,Orc.nothing,hr10,h0,h1,h2,h3,hsf])
      refine ⟨_, Nat.lt_succ_self _, dn ++ [.block s inner], rs, hnext, rfl, ?_, by simp, by simp⟩
      rw [htxt]; simpa [txtS] using hB11
    · have hy' : ∀ s i, y ≠ .block s i := fun s i e => hy ⟨s, i, e⟩
      obtain ⟨t1, t2, t3⟩ := toldS_one hy'
      have hL : toldL (y :: rs) = ndS y :: toldL rs := by rw [toldL, t1]; rfl
      have hnode : ∀ (v : V), v = .ptr id 0 0 → ∀ (K σ : Store) (l : List UInt8), IsB 52 5 K σ id l → l.length + costs (toldS y) ≤ 900000000 → Contract Tryz.prog 19 [v, encN (ndS y)] σ fun r σ' => r = .tup [] ∧ IsB 52 5 K σ' id (l ++ txtS y) := fun v hv K σ l h hl => by rw [hv]; exact wnode_c y hy' hoky h hl
      have htl := txtS_len y hoky
      rw [hL] at h0
      have hidx : ∀ σ, idxAV σ 20 (encNs (ndS y :: toldL rs)) (.int .i64 0) = some (.rp (.agg (ndS y).cells)) := fun σ => idxAV_encNs (i := 0) (by simp)
      have hlen : ((((toldL rs).length + 1 : Nat) : Int) > 0) = True := eq_true (by omega)
      have hsf : ∀ σ, sliceV σ 20 (encNs (ndS y :: toldL rs)) (some (.int .i64 1)) none none = some (encNs (toldL rs)) := fun σ => by rw [sliceV_fromA (by omega) (by simp; omega)]; rfl
      generalize ndS y = x at *
      (refine Runs.of_step Orc.nothing 300 ?_; simp -implicitDefEqProofs only [BB,seval,← decide_not,okind,vpre,vpure,intBin,intPre,strBin,strPre,popTo,argSlots,fldV,fldAV,subCells,idxVV,idxAAV,idxSV,sliceSV,boundV,szIs,storeOp,storeS,setRowV,eff,extV,buildV,splice,eqSV,fitsL,eqCells,eqCell,minmaxV,capV,binBV,nilCheckV,bytesV,V.cells,V.stays,Orc.nothing,h0,h1,h2,h3,lenV_encNs,hlen,hidx,loadV_rp_node,encN,Nd.cells,encI])
      refine effR_new fun id6 σ6 s6 r6 f6 => ?_
      simp -implicitDefEqProofs only [BB,seval,← decide_not,okind,vpre,vpure,intBin,intPre,strBin,strPre,popTo,argSlots,fldV,fldAV,subCells,idxVV,idxAAV,idxSV,sliceSV,boundV,szIs,storeOp,storeS,setRowV,eff,extV,buildV,splice,eqSV,fitsL,eqCells,eqCell,minmaxV,capV,binBV,nilCheckV,bytesV,V.cells,V.stays,r6,h0,h1,h2,h3,t2]
      refine Runs.call rfl rfl rfl (hnode _ h2 _ _ _ (hB.grow (s6.updK f6) f6 upd_same) (by simp only [List.length_append]; omega)) ?_
      rintro r σ7 ⟨rfl, hB7⟩
      (refine Runs.of_step Orc.nothing 300 ?_; simp -implicitDefEqProofs only [BB,seval,← decide_not,okind,vpre,vpure,intBin,intPre,strBin,strPre,popTo,argSlots,fldV,fldAV,subCells,idxVV,idxAAV,idxSV,sliceSV,boundV,szIs,storeOp,storeS,setRowV,eff,extV,buildV,splice,eqSV,fitsL,eqCells,eqCell,minmaxV,capV,binBV,nilCheckV,bytesV,V.cells,V.stays,Orc.nothing,h0,h1,h2,h3])
      refine Runs.call rfl rfl rfl (wstr_c btW e hB7 (by simp only [List.length_append]; omega)) ?_
      rintro r σ8 ⟨rfl, hB8⟩
      have hr8 := hB8.sub _ _ upd_same
      have hB9 := hB8.less ((SubStore.refl K).upd_new (hB.sub.none f6))
      (refine Runs.of_step Orc.nothing 300 ?_; simp -implicitDefEqProofs only [BB,seval,← decide_not,okind,vpre,vpure,intBin,intPre,strBin,strPre,popTo,argSlots,fldV,fldAV,subCells,idxVV,idxAAV,idxSV,sliceSV,boundV,szIs,storeOp,storeS,setRowV,eff,extV,buildV,splice,eqSV,fitsL,eqCells,eqCell,minmaxV,capV,binBV,nilCheckV,bytesV,V.cells,V.stays,Orc.nothing,hr8,h0,h1,h2,h3,t3,hsf])
      refine ⟨_, Nat.lt_succ_self _, dn ++ [y], rs, hnext, rfl, ?_, by simp, by simp⟩
      rw [htxt]; simpa using hB9
end Go.Vc
namespace Go.Vc
def shpN (x : Nd) : Shp := if x.kind = 2 then .text (x.line :: x.space :: x.words) else if x.kind = 3 then .box x.w x.h else .float x.w x.h x.side
def styI (s : Sty) : List Int := [s.top, s.bottom, s.padTop, s.padBottom, s.inset, s.orphans, s.widows, s.head, s.before, s.after, s.inside, s.clear]
theorem styI_ok {s : Sty} (h : s.ok = true) : okL (styI s) := by
  have hMX : MX = 1099511627776 := rfl
  simp [Sty.ok, isFrom, mx] at h
  intro k v hk
  have hk12 : k < 12 := (List.getElem?_eq_some_iff.1 hk).1
  match k, hk12 with
  | 0, _ | 1, _ | 2, _ | 3, _ | 4, _ | 5, _ | 6, _ | 7, _ | 8, _ | 9, _ | 10, _ | 11, _ =>
    simp only [styI,List.getElem?_cons_zero,List.getElem?_cons_succ,Option.some.injEq] at hk
    subst hk
    simp [loK, hiK]
    omega
theorem isFrom_iff {n a b : Int} : isFrom n a b = true ↔ a ≤ n ∧ n ≤ b := by unfold isFrom; simp
theorem mxMX : mx = MX := rfl
theorem shpN_ok {x : Nd} (h : x.ok = true) (h1 : x.kind ≠ 1) (hs : x.size = 1) : toldS (shpN x) = [x] ∧ okS (shpN x) := by
  have hMX : MX = 1099511627776 := rfl
  unfold Nd.ok at h
  rw [if_neg h1] at h
  split at h
  · cases h
  · rename_i hst
    have hst : x.st = Sty.zero := Classical.byContradiction hst
    obtain ⟨kind, size, st, line, space, words, side, w, hh⟩ := x
    simp only at h h1 hs hst
    subst hst hs
    split at h
    · rename_i h2
      simp only [Bool.and_eq_true,decide_eq_true_eq,isFrom_iff,mxMX] at h
      obtain ⟨⟨⟨⟨⟨⟨a1, a2⟩, a3⟩, a4⟩, a5⟩, a6⟩, a7⟩ := h
      subst h2 a5 a6 a7
      refine ⟨rfl, ?_⟩
      show okS (.text (line :: space :: words))
      rw [okS]
      cases words with
      | nil => simp at a2
      | cons c r =>
        have hall := List.all_eq_true.1 a1
        have hc := isFrom_iff.1 (hall c (by simp))
        exact ⟨line, space, c, r, rfl, a3, a4, hc, fun n hn => isFrom_iff.1 (hall n (by simp [hn]))⟩
    · rename_i h2
      simp only [Bool.and_eq_true,Bool.or_eq_true,decide_eq_true_eq,isFrom_iff,mxMX] at h
      obtain ⟨⟨⟨⟨⟨a1, a2⟩, a3⟩, a4⟩, a5⟩, a6⟩ := h
      have hw : words = [] := List.length_eq_zero_iff.1 a3
      subst a1 a2 hw
      rcases a6 with ⟨k3, rfl⟩ | ⟨k4, hsd⟩
      · subst k3
        refine ⟨rfl, ?_⟩
        show okS (.box w hh)
        rw [okS]; exact ⟨a4, a5⟩
      · subst k4
        refine ⟨rfl, ?_⟩
        show okS (.float w hh side)
        rw [okS]; exact ⟨a4, a5, by omega⟩
theorem blk_ok {x : Nd} (h : x.ok = true) (h1 : x.kind = 1) (inner : List Shp) (hs : x.size = 1 + ((toldL inner).length : Int)) (hi : okSs inner) : toldS (.block (styI x.st) inner) = x :: toldL inner ∧ okS (.block (styI x.st) inner) := by
  unfold Nd.ok at h
  rw [if_pos h1] at h
  simp only [Bool.and_eq_true,decide_eq_true_eq] at h
  obtain ⟨⟨⟨⟨⟨⟨a1, a2⟩, a3⟩, a4⟩, a5⟩, a6⟩, a7⟩ := h
  obtain ⟨kind, size, st, line, space, words, side, w, hh⟩ := x
  simp only at a1 a2 a3 a4 a5 a6 a7 h1 hs
  have hw : words = [] := List.length_eq_zero_iff.1 a4
  subst a2 a3 hw a5 a6 a7 h1 hs
  refine ⟨by rw [toldS]; rfl, ?_⟩
  rw [okS]
  exact ⟨⟨rfl, styI_ok a1⟩, hi⟩
theorem shapes_of' : ∀ (m : Nat) (l : List Nd), l.length ≤ m → l.all Nd.ok = true → rowsB l 0 l.length = true → ∃ xs, toldL xs = l ∧ okSs xs := by
  intro m
  induction m with
  | zero =>
    intro l hm _ _
    have : l = [] := List.length_eq_zero_iff.1 (by omega)
    subst this
    exact ⟨[], rfl, trivial⟩
  | succ m ih =>
    intro l hm hok hr
    cases l with
    | nil => exact ⟨[], rfl, trivial⟩
    | cons x l =>
      simp only [List.length_cons] at hm hr
      rw [rowsB, dif_pos (by omega)] at hr
      simp only [List.getElem?_cons_zero] at hr
      split at hr
      · rename_i hx
        simp only [Bool.and_eq_true,Bool.or_eq_true,decide_eq_true_eq] at hr
        obtain ⟨⟨hk, h1⟩, h2⟩ := hr
        simp only [Nat.zero_add] at h1 h2
        rw [List.all_cons, Bool.and_eq_true] at hok
        obtain ⟨k, hk1⟩ : ∃ k : Nat, x.size = 1 + (k : Int) := ⟨(x.size - 1).toNat, by omega⟩
        have hkl : k ≤ l.length := by omega
        have e1 : x.size.toNat = 1 + k := by omega
        rw [e1] at h1 h2
        have w1 := rowsB_window (x :: l) 1 k (k + 1) 0 k (by omega) (Nat.le_refl _) (by simp; omega)
        have w2 := rowsB_window (x :: l) (1 + k) (l.length - k) (l.length - k + 1) 0 (l.length - k) (by omega) (Nat.le_refl _) (by simp; omega)
        rw [Nat.add_zero, h1] at w1
        rw [Nat.add_zero, show 1 + k + (l.length - k) = l.length + 1 by omega, h2] at w2
        have d1 : ((x :: l).drop 1).take k = l.take k := rfl
        have d2 : ((x :: l).drop (1 + k)).take (l.length - k) = l.drop k := by
          rw [show 1 + k = k + 1 by omega, List.drop_succ_cons]
          exact List.take_of_length_le (by simp)
        rw [d1] at w1
        rw [d2] at w2
        have hall := List.all_eq_true.1 hok.2
        obtain ⟨ys, y1, y2⟩ := ih (l.drop k) (by simp; omega) (List.all_eq_true.2 fun z hz => hall z (List.mem_of_mem_drop hz)) (by simpa using w2)
        obtain ⟨zs, z1, z2⟩ := ih (l.take k) (by simp; omega) (List.all_eq_true.2 fun z hz => hall z (List.mem_of_mem_take hz)) (by rw [List.length_take, Nat.min_eq_left hkl]; exact w1)
        by_cases hkind : x.kind = 1
        · obtain ⟨b1, b2⟩ := blk_ok hok.1 hkind zs (by rw [z1, List.length_take, Nat.min_eq_left hkl]; exact hk1) z2
          refine ⟨.block (styI x.st) zs :: ys, ?_, by rw [okSs]; exact ⟨b2, y2⟩⟩
          rw [toldL, b1, z1, y1, List.cons_append, List.take_append_drop]
        · have hs1 : x.size = 1 := by
            rcases hk with h | h
            · exact absurd h hkind
            · omega
          have hk0 : k = 0 := by omega
          subst hk0
          obtain ⟨b1, b2⟩ := shpN_ok hok.1 hkind hs1
          refine ⟨shpN x :: ys, ?_, by rw [okSs]; exact ⟨b2, y2⟩⟩
          rw [toldL, b1, y1]; rfl
      · cases hr
theorem shapes_of {l : List Nd} (h : isB l = true) : ∃ xs, toldL xs = l ∧ okSs xs := by
  simp only [isB,Bool.and_eq_true] at h
  exact shapes_of' l.length l (Nat.le_refl _) h.1 h.2
mutual
theorem okS_nodes : ∀ (x : Shp), okS x → ∀ y ∈ toldS x, y.ok = true
  | .box w h, ho, y, hy => by
    rw [okS] at ho
    rw [toldS] at hy
    simp only [List.mem_singleton] at hy
    subst hy
    have hMX : MX = 1099511627776 := rfl
    simp [ndS, Nd.ok, isFrom, mx]; omega
  | .float w h d, ho, y, hy => by
    rw [okS] at ho
    rw [toldS] at hy
    simp only [List.mem_singleton] at hy
    subst hy
    have hMX : MX = 1099511627776 := rfl
    exact float_ok2 w h d (by simp [isFrom, mx]; omega) (by simp [isFrom, mx]; omega) ho.2.2
  | .text ns, ho, y, hy => by
    rw [okS] at ho
    obtain ⟨a, b, c, r, rfl, h1, h2, h3, h4⟩ := ho
    rw [toldS] at hy
    simp only [List.mem_singleton] at hy
    subst hy
    have hMX : MX = 1099511627776 := rfl
    simp only [ndS,List.getD_cons_zero,List.getD_cons_succ,List.drop_succ_cons,List.drop_zero,Nd.ok]
    have h5 : r.all (isFrom · 1 mx) = true := List.all_eq_true.2 fun n hn => by have := h4 n hn; simp [isFrom, mx]; omega
    simp only [List.all_cons,h5,List.length_cons]
    simp [isFrom, mx]; omega
  | .block s inner, ho, y, hy => by
    rw [okS] at ho
    rw [toldS] at hy
    simp only [List.mem_cons] at hy
    rcases hy with rfl | hy
    · rw [ok_size rfl]
      simp [ndS, Nd.ok, styL_ok ho.1.1 ho.1.2]
    · exact okSs_nodes inner ho.2 y hy
theorem okSs_nodes : ∀ (xs : List Shp), okSs xs → ∀ y ∈ toldL xs, y.ok = true
  | [], _, y, hy => by cases hy
  | x :: l, ho, y, hy => by
    rw [okSs] at ho
    rw [toldL, List.mem_append] at hy
    rcases hy with hy | hy
    · exact okS_nodes x ho.1 y hy
    · exact okSs_nodes l ho.2 y hy
end
theorem okSs_isB {xs : List Shp} (h : okSs xs) : isB (toldL xs) = true := isB_told (okSs_nodes xs h)
end Go.Vc
namespace Go.Vc
open Go.Proofs
theorem txtL_nil {xs : List Shp} (h : txtL [10] xs = []) : xs = [] := by
  cases xs with
  | nil => rfl
  | cons x l => simp [txtL] at h
theorem write_c (xs : List Shp) (hok : okSs xs) (hF : Fine (toldL xs)) (hcs : costs (toldL xs) ≤ 800000000) : PFun Tryz.prog 9 [encNs (toldL xs)] (.tup [.str (txtL [10] xs), vI 0]) := fun σ => by
  have hB : isB (toldL xs) = true := okSs_isB hok
  refine Contract.of_runs Tryz.func9 e9 k9 (by simp [c9]) ?_
  refine Runs.mix 6 ?_
  (refine Runs.of_step Orc.nothing 300 ?_; simp -implicitDefEqProofs only [BB,seval,← decide_not,okind,vpre,vpure,intBin,intPre,strBin,strPre,popTo,argSlots,fldV,fldAV,subCells,idxVV,idxAAV,idxSV,sliceV,sliceSV,boundV,szIs,storeOp,storeS,setRowV,eff,extV,buildV,splice,eqSV,fitsL,eqCells,eqCell,minmaxV,capV,binBV,nilCheckV,bytesV,V.cells,V.stays,Orc.nothing,c9])
  refine Runs.pcall rfl rfl rfl (isv_c _ hF _) ?_
  (refine Runs.of_step Orc.nothing 300 ?_; simp -implicitDefEqProofs only [BB,seval,← decide_not,okind,vpre,vpure,intBin,intPre,strBin,strPre,popTo,argSlots,fldV,fldAV,subCells,idxVV,idxAAV,idxSV,sliceV,sliceSV,boundV,szIs,storeOp,storeS,setRowV,eff,extV,buildV,splice,eqSV,fitsL,eqCells,eqCell,minmaxV,capV,binBV,nilCheckV,bytesV,V.cells,V.stays,Orc.nothing,hB])
  refine effR_new fun id4 σ4 s4 r4 f4 => ?_
  simp -implicitDefEqProofs only [BB,seval,← decide_not,okind,vpre,vpure,intBin,intPre,strBin,strPre,popTo,argSlots,fldV,fldAV,subCells,idxVV,idxAAV,idxSV,sliceV,sliceSV,boundV,szIs,storeOp,storeS,setRowV,eff,extV,buildV,splice,eqSV,fitsL,eqCells,eqCell,minmaxV,capV,binBV,nilCheckV,bytesV,V.cells,V.stays,r4]
  refine effR_new fun id5 σ5 s5 r5 f5 => ?_
  have n45 : id4 ≠ id5 := ne_new r4 f5
  simp -implicitDefEqProofs only [BB,seval,← decide_not,okind,vpre,vpure,intBin,intPre,strBin,strPre,popTo,argSlots,fldV,fldAV,subCells,idxVV,idxAAV,idxSV,sliceV,sliceSV,boundV,szIs,storeOp,storeS,setRowV,eff,extV,buildV,splice,eqSV,fitsL,eqCells,eqCell,minmaxV,capV,binBV,nilCheckV,bytesV,V.cells,V.stays,r5]
  have fs5 : σ id5 = none := s4.none f5
  have hK : (upd σ id5 ⟨53, 1, [.fn 16 [.ptr id4 0 0, .ptr id5 0 0]]⟩) id5 = some ⟨53, 1, [.fn 16 [.ptr id4 0 0, .ptr id5 0 0]]⟩ := upd_same
  have hrow : (upd σ5 id5 ⟨53, 1, [.fn 16 [.ptr id4 0 0, .ptr id5 0 0]]⟩) id4 = some (bRow 52 .nilp .nils) := by rw [upd_ne n45]; exact s5 _ _ r4
  have hB0 : IsB 52 5 (upd σ id5 ⟨53, 1, [.fn 16 [.ptr id4 0 0, .ptr id5 0 0]]⟩) (upd σ5 id5 ⟨53, 1, [.fn 16 [.ptr id4 0 0, .ptr id5 0 0]]⟩) id4 [] := IsB.start ((s4.trans s5).upd2) (by rw [upd_ne n45]; exact f4) hrow
  have hlen := hF.1
  refine Runs.call rfl rfl rfl (wall_c _ _ hK xs (Nat.lt_succ_self _) hok [10] [] _ (by simp) (by simpa using hcs) (by omega) hB0) ?_
  rintro r σ6 ⟨rfl, hB6, hsame⟩
  (refine Runs.of_step Orc.nothing 300 ?_; simp -implicitDefEqProofs only [BB,seval,← decide_not,okind,vpre,vpure,intBin,intPre,strBin,strPre,popTo,argSlots,fldV,fldAV,subCells,idxVV,idxAAV,idxSV,sliceV,sliceSV,boundV,szIs,storeOp,storeS,setRowV,eff,extV,buildV,splice,eqSV,fitsL,eqCells,eqCell,minmaxV,capV,binBV,nilCheckV,bytesV,V.cells,V.stays,Orc.nothing])
  refine Runs.call rfl rfl rfl (bstr_c hB6 (fun e => ?_)) ?_
  · have e1 := hsame (txtL_nil (by simpa using e))
    refine ⟨.nilp, ?_⟩
    show σ6 id4 = _
    rw [e1]; exact hrow
  rintro r σ7 ⟨rfl, rfl⟩
  (refine Runs.of_step Orc.nothing 300 ?_; simp -implicitDefEqProofs only [BB,seval,← decide_not,okind,vpre,vpure,intBin,intPre,strBin,strPre,popTo,argSlots,fldV,fldAV,subCells,idxVV,idxAAV,idxSV,sliceV,sliceSV,boundV,szIs,storeOp,storeS,setRowV,eff,extV,buildV,splice,eqSV,fitsL,eqCells,eqCell,minmaxV,capV,binBV,nilCheckV,bytesV,V.cells,V.stays,Orc.nothing])
  exact .pure ((SubStore.refl σ).updK fs5) (by simp)
end Go.Vc
namespace Go.Vc
open Go.Proofs
def oneR (f : Nat) (l : List Tk) : Shp × RS :=
  if signB 91 l then
    let a := attrsT (fun _ => true) plainS l.tail false
    let n := nodesT f a.2.1 a.2.2
    (.block a.1 n.1, takeR 93 n.2.1 n.2.2)
  else if signB 40 l then (.text (textR l).1, (textR l).2)
  else if signB 123 l then (.box (boxR 125 l.tail false).1 (boxR 125 l.tail false).2.1, (boxR 125 l.tail false).2.2)
  else floatR l false
def beg (l : List Tk) : Prop := signB 91 l = true ∨ signB 40 l = true ∨ signB 123 l = true ∨ signB 60 l = true
theorem nodesR_one {f : Nat} {l : List Tk} (h : beg l) : nodesR (f + 1) l = ((oneR f l).1 :: (nodesT f (oneR f l).2.1 (oneR f l).2.2).1, (nodesT f (oneR f l).2.1 (oneR f l).2.2).2) := by
  rcases sign_cases l with q | ⟨q1, q2⟩ | ⟨q1, q2, q3⟩ | ⟨q1, q2, q3, q4⟩ | ⟨q1, q2, q3, q4⟩
  · rw [nodesR_block q, oneR, if_pos q]
  · rw [nodesR_text q1 q2, oneR, if_neg (by simp [q1]), if_pos q2]
  · rw [nodesR_box q1 q2 q3, oneR, if_neg (by simp [q1]), if_neg (by simp [q2]), if_pos q3]
  · rw [nodesR_float q1 q2 q3 q4, oneR, if_neg (by simp [q1]), if_neg (by simp [q2]), if_neg (by simp [q3])]
  · rcases h with h | h | h | h
    · rw [q1] at h; cases h
    · rw [q2] at h; cases h
    · rw [q3] at h; cases h
    · rw [q4] at h; cases h
theorem one_suffix {f : Nat} {l : List Tk} (h : beg l) : (∃ p, l = p ++ (oneR f l).2.1) ∧ (oneR f l).2.1.length < l.length := by
  rcases sign_cases l with q | ⟨q1, q2⟩ | ⟨q1, q2, q3⟩ | ⟨q1, q2, q3, q4⟩ | ⟨q1, q2, q3, q4⟩
  · rw [oneR, if_pos q]
    have h1 := attrsT_len (fun _ => true) plainS l.tail false
    have h2 := nodesT_len f (attrsT (fun _ => true) plainS l.tail false).2.1 (attrsT (fun _ => true) plainS l.tail false).2.2
    have h3 := takeR_len 93 (nodesT f (attrsT (fun _ => true) plainS l.tail false).2.1 (attrsT (fun _ => true) plainS l.tail false).2.2).2.1 (nodesT f (attrsT (fun _ => true) plainS l.tail false).2.1 (attrsT (fun _ => true) plainS l.tail false).2.2).2.2
    have h4 := (takeR_yes q).2
    exact ⟨suf_trans (tail_suffix l) (suf_trans (rest_suffix_attrs _ _ _ _ _ (Nat.le_refl _)) (suf_trans (rest_suffix f _ _) (rest_suffix_take 93 _ _))), by simp only; omega⟩
  · rw [oneR, if_neg (by simp [q1]), if_pos q2]
    have h1 := textR_len q2
    exact ⟨rest_suffix_text l, by simp only; omega⟩
  · rw [oneR, if_neg (by simp [q1]), if_neg (by simp [q2]), if_pos q3]
    have h1 := boxR_len 125 l.tail false
    have h4 := (takeR_yes q3).2
    exact ⟨suf_trans (tail_suffix l) (rest_suffix_box 125 _ _), by simp only; omega⟩
  · rw [oneR, if_neg (by simp [q1]), if_neg (by simp [q2]), if_neg (by simp [q3])]
    have h1 := floatR_len q4
    exact ⟨rest_suffix_float l, by omega⟩
  · rcases h with h | h | h | h
    · rw [q1] at h; cases h
    · rw [q2] at h; cases h
    · rw [q3] at h; cases h
    · rw [q4] at h; cases h
def goneR (l : List Tk) (p : Nat) : GR := toG l.length (toldS (oneR l.length (l.drop p)).1) (oneR l.length (l.drop p)).2
theorem tail_drop (l : List Tk) (p : Nat) : (l.drop p).tail = l.drop (p + 1) := by rw [List.tail_drop]
theorem wk_nil_nd (σ : Store) (k d : Int) : Wk σ σ (.agg [vI k, vI 1, vI 0, vI 0, vI 0, vI 0, vI 0, vI 0, vI 0, vI 0, vI 0, vI 0, vI 0, vI 0, vI 0, vI 0, .nils, vI d, vI 0, vI 0]) (encN ⟨k, 1, Sty.zero, 0, 0, [], d, 0, 0⟩) :=
  wk_nd (SubStore.refl σ) k 1 0 0 0 d 0 0 Sty.zero
theorem gbox_nil (l : List Tk) (p : Nat) (k d e : Int) (hp : p ≤ 1000000) : PFun Tryz.prog 63 [encL l, vI p, .agg [vI k, vI 1, vI 0, vI 0, vI 0, vI 0, vI 0, vI 0, vI 0, vI 0, vI 0, vI 0, vI 0, vI 0, vI 0, vI 0, .nils, vI d, vI 0, vI 0], .int .i32 e]
    (encG (gboxR l p ⟨k, 1, Sty.zero, 0, 0, [], d, 0, 0⟩ e)) := fun σ =>
  Contract.args (by simp only [WkL]; exact ⟨Wk.refl (SubStore.refl _) _, Wk.refl (SubStore.refl _) _, wk_nil_nd _ k d, Wk.refl (SubStore.refl _) _, trivial⟩) (gbox_c l p ⟨k, 1, Sty.zero, 0, 0, [], d, 0, 0⟩ e hp σ)
set_option maxRecDepth 100000 in
theorem gone_c {l : List Tk} {k : Nat} (ih : NodesG l k) (hl : l.length ≤ 1000000) (p : Nat) (hp : p < l.length) (hk : l.length - p ≤ k + 1) (hb : beg (l.drop p)) : PFun Tryz.prog 42 [encL l, vI p] (encG (goneR l p)) := fun σ => by
  refine Contract.of_runs Tryz.func42 e42 k42 (by simp [c42]) ?_
  refine Runs.mix 5 ?_
  have hi1 : inR .i64 ((p : Int) + 1) := inR_i64 (by omega) (by omega)
  have hi2 : inR .i64 ((p : Int) + 2) := inR_i64 (by omega) (by omega)
  have e1 : (p : Int) + 1 = ((p + 1 : Nat) : Int) := by omega
  have e2 : (p : Int) + 2 = ((p + 2 : Nat) : Int) := by omega
  (refine Runs.of_step Orc.nothing 300 ?_; simp -implicitDefEqProofs only [BB,seval,← decide_not,okind,vpre,vpure,intBin,intPre,strBin,strPre,popTo,argSlots,fldV,fldAV,subCells,idxVV,idxAAV,idxSV,sliceV,sliceSV,boundV,szIs,storeOp,storeS,setRowV,eff,extV,buildV,splice,eqSV,fitsL,eqCells,eqCell,minmaxV,capV,binBV,nilCheckV,bytesV,V.cells,V.stays,Orc.nothing,c42])
  refine effR_new fun id4 σ4 s4 a4 f4 => ?_
  simp -implicitDefEqProofs only [BB,seval,← decide_not,okind,vpre,vpure,intBin,intPre,strBin,strPre,popTo,argSlots,fldV,fldAV,subCells,idxVV,idxAAV,idxSV,sliceV,sliceSV,boundV,szIs,storeOp,storeS,setRowV,eff,extV,buildV,splice,eqSV,fitsL,eqCells,eqCell,minmaxV,capV,binBV,nilCheckV,bytesV,V.cells,V.stays]
  have fin : ∀ r : GR, RetV (.agg [encNs r.1, vI r.2.1, vI (if r.2.2 then 1 else 0)]) (upd σ4 id4 (gotO (.agg [encNs r.1, vI r.2.1, vI (if r.2.2 then 1 else 0)]))) fun r' σ' => r' = encG r ∧ σ' = σ := fun r => RetV.pure (s4.updK f4) rfl
  refine Runs.pcall rfl rfl rfl (gsign_c l p 91 _) ?_
  have hpc : ∀ r : GR, (encNs r.1).cells = [encNs r.1] ∧ (encNs r.1).stays = true := fun r => ⟨rfl, rfl⟩
  cases q1 : signB 91 (l.drop p) with
  | true =>
    have hg : goneR l p = gblockR l p := by
      rw [goneR, oneR, if_pos q1, gblockR, tail_drop]
    (refine Runs.of_step Orc.nothing 300 ?_; simp -implicitDefEqProofs only [BB,seval,effR_some,effD_some,← decide_not,okind,vpre,vpure,intBin,intPre,strBin,strPre,popTo,argSlots,fldV,fldAV,subCells,idxVV,idxAAV,idxSV,sliceV,sliceSV,boundV,szIs,storeOp,storeS,setRowV,eff,extV,buildV,splice,eqSV,fitsL,eqCells,eqCell,minmaxV,capV,binBV,nilCheckV,bytesV,V.cells,V.stays,Orc.nothing])
    refine Runs.pcall rfl rfl rfl (gblock_c ih hl p hp hk _) ?_
    rw [hg]
    have hf := fin (gblockR l p)
    have hc := hpc (gblockR l p)
    generalize gblockR l p = r at *
    unfold encG at *
    (refine Runs.of_step Orc.nothing 300 ?_; simp -implicitDefEqProofs only [BB,seval,effR_some,effD_some,← decide_not,okind,vpre,vpure,intBin,intPre,strBin,strPre,popTo,argSlots,fldV,fldAV,subCells,idxVV,idxAAV,idxSV,sliceV,sliceSV,boundV,szIs,storeOp,storeS,setRowV,eff,extV,buildV,splice,eqSV,fitsL,eqCells,eqCell,minmaxV,capV,binBV,nilCheckV,bytesV,V.cells,V.stays,Orc.nothing,a4,hc.1,hc.2])
    exact hf
  | false =>
    (refine Runs.of_step Orc.nothing 300 ?_; simp -implicitDefEqProofs only [BB,seval,effR_some,effD_some,← decide_not,okind,vpre,vpure,intBin,intPre,strBin,strPre,popTo,argSlots,fldV,fldAV,subCells,idxVV,idxAAV,idxSV,sliceV,sliceSV,boundV,szIs,storeOp,storeS,setRowV,eff,extV,buildV,splice,eqSV,fitsL,eqCells,eqCell,minmaxV,capV,binBV,nilCheckV,bytesV,V.cells,V.stays,Orc.nothing])
    refine Runs.pcall rfl rfl rfl (gsign_c l p 40 _) ?_
    cases q2 : signB 40 (l.drop p) with
    | true =>
      have hg : goneR l p = gtextR l p := by
        rw [goneR, oneR, if_neg (by simp [q1]), if_pos q2, gtext_eq l p q2]
        simp only [toldS]
      (refine Runs.of_step Orc.nothing 300 ?_; simp -implicitDefEqProofs only [BB,seval,effR_some,effD_some,← decide_not,okind,vpre,vpure,intBin,intPre,strBin,strPre,popTo,argSlots,fldV,fldAV,subCells,idxVV,idxAAV,idxSV,sliceV,sliceSV,boundV,szIs,storeOp,storeS,setRowV,eff,extV,buildV,splice,eqSV,fitsL,eqCells,eqCell,minmaxV,capV,binBV,nilCheckV,bytesV,V.cells,V.stays,Orc.nothing])
      refine Runs.pcall rfl rfl rfl (gtext_c l p (by omega) hl _) ?_
      rw [hg]
      have hf := fin (gtextR l p)
      have hc := hpc (gtextR l p)
      generalize gtextR l p = r at *
      unfold encG at *
      (refine Runs.of_step Orc.nothing 300 ?_; simp -implicitDefEqProofs only [BB,seval,effR_some,effD_some,← decide_not,okind,vpre,vpure,intBin,intPre,strBin,strPre,popTo,argSlots,fldV,fldAV,subCells,idxVV,idxAAV,idxSV,sliceV,sliceSV,boundV,szIs,storeOp,storeS,setRowV,eff,extV,buildV,splice,eqSV,fitsL,eqCells,eqCell,minmaxV,capV,binBV,nilCheckV,bytesV,V.cells,V.stays,Orc.nothing,a4,hc.1,hc.2])
      exact hf
    | false =>
      (refine Runs.of_step Orc.nothing 300 ?_; simp -implicitDefEqProofs only [BB,seval,effR_some,effD_some,← decide_not,okind,vpre,vpure,intBin,intPre,strBin,strPre,popTo,argSlots,fldV,fldAV,subCells,idxVV,idxAAV,idxSV,sliceV,sliceSV,boundV,szIs,storeOp,storeS,setRowV,eff,extV,buildV,splice,eqSV,fitsL,eqCells,eqCell,minmaxV,capV,binBV,nilCheckV,bytesV,V.cells,V.stays,Orc.nothing])
      refine Runs.pcall rfl rfl rfl (gsign_c l p 123 _) ?_
      cases q3 : signB 123 (l.drop p) with
      | true =>
        have hg : goneR l p = gboxR l (p + 1) ⟨3, 1, Sty.zero, 0, 0, [], 0, 0, 0⟩ 125 := by
          rw [goneR, oneR, if_neg (by simp [q1]), if_neg (by simp [q2]), if_pos q3, gbox_toG _ _ _ _ (by omega), tail_drop]
          simp only [toldS,ndS]
        (refine Runs.of_step Orc.nothing 300 ?_; simp -implicitDefEqProofs only [BB,seval,effR_some,effD_some,← decide_not,okind,vpre,vpure,intBin,intPre,strBin,strPre,popTo,argSlots,fldV,fldAV,subCells,idxVV,idxAAV,idxSV,sliceV,sliceSV,boundV,szIs,storeOp,storeS,setRowV,eff,extV,buildV,splice,eqSV,fitsL,eqCells,eqCell,minmaxV,capV,binBV,nilCheckV,bytesV,V.cells,V.stays,Orc.nothing,hi1])
        rw [e1]
        refine Runs.pcall rfl rfl rfl (gbox_nil l (p + 1) 3 0 125 (by omega) _) ?_
        rw [hg]
        have hf := fin (gboxR l (p + 1) ⟨3, 1, Sty.zero, 0, 0, [], 0, 0, 0⟩ 125)
        have hc := hpc (gboxR l (p + 1) ⟨3, 1, Sty.zero, 0, 0, [], 0, 0, 0⟩ 125)
        generalize gboxR l (p + 1) ⟨3, 1, Sty.zero, 0, 0, [], 0, 0, 0⟩ 125 = r at *
        unfold encG at *
        (refine Runs.of_step Orc.nothing 300 ?_; simp -implicitDefEqProofs only [BB,seval,effR_some,effD_some,← decide_not,okind,vpre,vpure,intBin,intPre,strBin,strPre,popTo,argSlots,fldV,fldAV,subCells,idxVV,idxAAV,idxSV,sliceV,sliceSV,boundV,szIs,storeOp,storeS,setRowV,eff,extV,buildV,splice,eqSV,fitsL,eqCells,eqCell,minmaxV,capV,binBV,nilCheckV,bytesV,V.cells,V.stays,Orc.nothing,a4,hc.1,hc.2])
        exact hf
      | false =>
        have q4 : signB 60 (l.drop p) = true := by
          rcases hb with h | h | h | h
          · rw [q1] at h; cases h
          · rw [q2] at h; cases h
          · rw [q3] at h; cases h
          · exact h
        have hfl : oneR l.length (l.drop p) = floatR (l.drop p) false := by rw [oneR, if_neg (by simp [q1]), if_neg (by simp [q2]), if_neg (by simp [q3])]
        (refine Runs.of_step Orc.nothing 300 ?_; simp -implicitDefEqProofs only [BB,seval,effR_some,effD_some,← decide_not,okind,vpre,vpure,intBin,intPre,strBin,strPre,popTo,argSlots,fldV,fldAV,subCells,idxVV,idxAAV,idxSV,sliceV,sliceSV,boundV,szIs,storeOp,storeS,setRowV,eff,extV,buildV,splice,eqSV,fitsL,eqCells,eqCell,minmaxV,capV,binBV,nilCheckV,bytesV,V.cells,V.stays,Orc.nothing,hi1])
        rw [e1]
        refine Runs.pcall rfl rfl rfl (gsign_c l (p + 1) 76 _) ?_
        have hfr : floatR (l.drop p) false = (.float (boxR 62 (takeR (if signB 82 (l.drop (p + 1)) then 82 else 76) (l.drop (p + 1)) false).1 (takeR (if signB 82 (l.drop (p + 1)) then 82 else 76) (l.drop (p + 1)) false).2).1
            (boxR 62 (takeR (if signB 82 (l.drop (p + 1)) then 82 else 76) (l.drop (p + 1)) false).1 (takeR (if signB 82 (l.drop (p + 1)) then 82 else 76) (l.drop (p + 1)) false).2).2.1 (if signB 82 (l.drop (p + 1)) then 2 else 1),
            (boxR 62 (takeR (if signB 82 (l.drop (p + 1)) then 82 else 76) (l.drop (p + 1)) false).1 (takeR (if signB 82 (l.drop (p + 1)) then 82 else 76) (l.drop (p + 1)) false).2).2.2) := by
          unfold floatR
          simp only [take_yes q4]
        cases q5 : signB 76 (l.drop (p + 1)) with
        | true =>
          have hp1 := signB_lt q5
          have q6 : signB 82 (l.drop (p + 1)) = false := by
            rw [List.drop_eq_getElem_cons hp1] at q5 ⊢
            simp only [signB,Bool.and_eq_true,decide_eq_true_eq] at q5
            simp [signB, q5.2]
          have hg : goneR l p = gboxR l (p + 2) ⟨4, 1, Sty.zero, 0, 0, [], 1, 0, 0⟩ 62 := by
            rw [goneR, hfl, hfr, q6, if_neg (by simp), take_yes q5, gbox_toG _ _ _ _ (by omega)]
            simp only [toldS,ndS,Bool.false_eq_true,if_false]
          (refine Runs.of_step Orc.nothing 300 ?_; simp -implicitDefEqProofs only [BB,seval,effR_some,effD_some,← decide_not,okind,vpre,vpure,intBin,intPre,strBin,strPre,popTo,argSlots,fldV,fldAV,subCells,idxVV,idxAAV,idxSV,sliceV,sliceSV,boundV,szIs,storeOp,storeS,setRowV,eff,extV,buildV,splice,eqSV,fitsL,eqCells,eqCell,minmaxV,capV,binBV,nilCheckV,bytesV,V.cells,V.stays,Orc.nothing,hi2])
          rw [e2]
          refine Runs.pcall rfl rfl rfl (gbox_nil l (p + 2) 4 1 62 (by omega) _) ?_
          rw [hg]
          have hf := fin (gboxR l (p + 2) ⟨4, 1, Sty.zero, 0, 0, [], 1, 0, 0⟩ 62)
          have hc := hpc (gboxR l (p + 2) ⟨4, 1, Sty.zero, 0, 0, [], 1, 0, 0⟩ 62)
          generalize gboxR l (p + 2) ⟨4, 1, Sty.zero, 0, 0, [], 1, 0, 0⟩ 62 = r at *
          unfold encG at *
          (refine Runs.of_step Orc.nothing 300 ?_; simp -implicitDefEqProofs only [BB,seval,effR_some,effD_some,← decide_not,okind,vpre,vpure,intBin,intPre,strBin,strPre,popTo,argSlots,fldV,fldAV,subCells,idxVV,idxAAV,idxSV,sliceV,sliceSV,boundV,szIs,storeOp,storeS,setRowV,eff,extV,buildV,splice,eqSV,fitsL,eqCells,eqCell,minmaxV,capV,binBV,nilCheckV,bytesV,V.cells,V.stays,Orc.nothing,a4,hc.1,hc.2])
          exact hf
        | false =>
          (refine Runs.of_step Orc.nothing 300 ?_; simp -implicitDefEqProofs only [BB,seval,effR_some,effD_some,← decide_not,okind,vpre,vpure,intBin,intPre,strBin,strPre,popTo,argSlots,fldV,fldAV,subCells,idxVV,idxAAV,idxSV,sliceV,sliceSV,boundV,szIs,storeOp,storeS,setRowV,eff,extV,buildV,splice,eqSV,fitsL,eqCells,eqCell,minmaxV,capV,binBV,nilCheckV,bytesV,V.cells,V.stays,Orc.nothing,hi1])
          rw [e1]
          refine Runs.pcall rfl rfl rfl (gsign_c l (p + 1) 82 _) ?_
          cases q6 : signB 82 (l.drop (p + 1)) with
          | true =>
            have hp1 := signB_lt q6
            have hg : goneR l p = gboxR l (p + 2) ⟨4, 1, Sty.zero, 0, 0, [], 2, 0, 0⟩ 62 := by
              rw [goneR, hfl, hfr, q6, if_pos rfl, take_yes q6, gbox_toG _ _ _ _ (by omega)]
              simp only [toldS,ndS,if_true]
            (refine Runs.of_step Orc.nothing 300 ?_; simp -implicitDefEqProofs only [BB,seval,effR_some,effD_some,← decide_not,okind,vpre,vpure,intBin,intPre,strBin,strPre,popTo,argSlots,fldV,fldAV,subCells,idxVV,idxAAV,idxSV,sliceV,sliceSV,boundV,szIs,storeOp,storeS,setRowV,eff,extV,buildV,splice,eqSV,fitsL,eqCells,eqCell,minmaxV,capV,binBV,nilCheckV,bytesV,V.cells,V.stays,Orc.nothing,hi2])
            rw [e2]
            refine Runs.pcall rfl rfl rfl (gbox_nil l (p + 2) 4 2 62 (by omega) _) ?_
            rw [hg]
            have hf := fin (gboxR l (p + 2) ⟨4, 1, Sty.zero, 0, 0, [], 2, 0, 0⟩ 62)
            have hc := hpc (gboxR l (p + 2) ⟨4, 1, Sty.zero, 0, 0, [], 2, 0, 0⟩ 62)
            generalize gboxR l (p + 2) ⟨4, 1, Sty.zero, 0, 0, [], 2, 0, 0⟩ 62 = r at *
            unfold encG at *
            (refine Runs.of_step Orc.nothing 300 ?_; simp -implicitDefEqProofs only [BB,seval,effR_some,effD_some,← decide_not,okind,vpre,vpure,intBin,intPre,strBin,strPre,popTo,argSlots,fldV,fldAV,subCells,idxVV,idxAAV,idxSV,sliceV,sliceSV,boundV,szIs,storeOp,storeS,setRowV,eff,extV,buildV,splice,eqSV,fitsL,eqCells,eqCell,minmaxV,capV,binBV,nilCheckV,bytesV,V.cells,V.stays,Orc.nothing,a4,hc.1,hc.2])
            exact hf
          | false =>
            have hg : goneR l p = ([], p + 1, true) := by
              have hbw : ∀ (l : List Tk), (boxR 62 l true).2.2 = (l, true) := fun l => by
                unfold boxR
                simp only [count_w,take_w]
              rw [goneR, hfl, hfr, q6, if_neg (by simp), take_no q5]
              simp only [hbw]
              exact toG_bad (by omega)
            rw [hg]
            (refine Runs.of_step Orc.nothing 300 ?_; simp -implicitDefEqProofs only [BB,seval,effR_some,effD_some,← decide_not,okind,vpre,vpure,intBin,intPre,strBin,strPre,popTo,argSlots,fldV,fldAV,subCells,idxVV,idxAAV,idxSV,sliceV,sliceSV,boundV,szIs,storeOp,storeS,setRowV,eff,extV,buildV,splice,eqSV,fitsL,eqCells,eqCell,minmaxV,capV,binBV,nilCheckV,bytesV,V.cells,V.stays,Orc.nothing,a4,hi1])
            rw [e1]
            exact retG (s4.updK f4)
end Go.Vc
namespace Go.Vc
open Go.Proofs
structure GInv (K σ : Store) (id5 : Nat) (v : V) (ns : List Nd) (q : Nat) : Prop where
  off : Off id5 K σ
  r5 : σ id5 = some (gotO (.agg [v, vI (q : Int), vI 0]))
  out : OutV K σ 58 20 v (ns.map encN)
theorem beg_lt {l : List Tk} {q : Nat} (h : beg (l.drop q)) : q < l.length := by
  rcases h with h | h | h | h <;> exact signB_lt h
theorem gstore0 {σ : Store} {id5 : Nat} {v w : V} {q : Int} (h : σ id5 = some (gotO (.agg [v, vI q, vI 0]))) (hw : w.cells = [w]) (hs : w.stays = true) : storeS σ 1 (.ptr id5 0 0) w = some (upd σ id5 (gotO (.agg [w, vI q, vI 0]))) := by
  simp only [storeS,h,List.getElem?_cons_zero]
  have : setRowV (.agg [v, vI q, vI 0]) 0 1 w = some (.agg [w, vI q, vI 0]) := by
    unfold setRowV
    rw [if_pos ⟨by rw [hw]; rfl, hs⟩, if_neg (by simp [V.cells]), if_pos (by simp [V.cells])]
    rw [hw]
    rfl
  rw [this]
  rfl
theorem gstore1 {σ : Store} {id5 : Nat} {v : V} {q a : Int} (h : σ id5 = some (gotO (.agg [v, vI q, vI 0]))) : storeS σ 1 (.ptr id5 0 1) (vI a) = some (upd σ id5 (gotO (.agg [v, vI a, vI 0]))) := by
  simp only [storeS,h,List.getElem?_cons_zero]
  have : setRowV (.agg [v, vI q, vI 0]) 1 1 (vI a) = some (.agg [v, vI a, vI 0]) := by
    unfold setRowV
    rw [if_pos ⟨rfl, rfl⟩, if_neg (by simp [V.cells]), if_pos (by simp [V.cells])]
    rfl
  rw [this]
  rfl
set_option maxRecDepth 100000 in
theorem gnodes_c {l : List Tk} (hl : l.length ≤ 1000000) : ∀ k, NodesG l k := by
  intro k
  induction k with
  | zero =>
    -- at the end
    intro p hp hk σ
    have hd : l.drop p = [] := List.drop_eq_nil_of_le (by omega)
    have hg : gnodesR l p = ([], p, false) := by
      rw [gnodesR, hd, nodesR_none rfl rfl rfl rfl, ← hd]
      exact toG_at (by omega)
    rw [hg]
    refine Contract.of_runs Tryz.func23 e23 k23 (by simp [c23]) ?_
    refine Runs.mix 7 ?_
    (refine Runs.of_step Orc.nothing 300 ?_; simp -implicitDefEqProofs only [BB,seval,← decide_not,okind,vpre,vpure,intBin,intPre,strBin,strPre,popTo,argSlots,fldV,fldAV,subCells,idxVV,idxAAV,idxSV,sliceV,sliceSV,boundV,szIs,storeOp,storeS,setRowV,eff,extV,buildV,splice,eqSV,fitsL,eqCells,eqCell,minmaxV,capV,binBV,nilCheckV,bytesV,V.cells,V.stays,Orc.nothing,c23])
    refine effR_new fun id4 σ4 s4 a4 f4 => ?_
    simp -implicitDefEqProofs only [BB,seval,← decide_not,okind,vpre,vpure,intBin,intPre,strBin,strPre,popTo,argSlots,fldV,fldAV,subCells,idxVV,idxAAV,idxSV,sliceV,sliceSV,boundV,szIs,storeOp,storeS,setRowV,eff,extV,buildV,splice,eqSV,fitsL,eqCells,eqCell,minmaxV,capV,binBV,nilCheckV,bytesV,V.cells,V.stays]
    refine effR_new fun id5 σ5 s5 a5 f5 => ?_
    simp -implicitDefEqProofs only [BB,seval,← decide_not,okind,vpre,vpure,intBin,intPre,strBin,strPre,popTo,argSlots,fldV,fldAV,subCells,idxVV,idxAAV,idxSV,sliceV,sliceSV,boundV,szIs,storeOp,storeS,setRowV,eff,extV,buildV,splice,eqSV,fitsL,eqCells,eqCell,minmaxV,capV,binBV,nilCheckV,bytesV,V.cells,V.stays,a5]
    have n45 : id4 ≠ id5 := ne_new a4 f5
    have g4 := s5 _ _ a4
    have hsub : SubStore σ (upd σ5 id5 (gotO (.agg [.nils, vI p, vI 0]))) := (s4.trans s5).updK (s4.none f5)
    refine Runs.loop (fun m st => m = 0 ∧ st.σ = upd σ5 id5 (gotO (.agg [.nils, vI p, vI 0])) ∧ st.s 0 = encL l ∧ st.s 4 = .ptr id4 0 0 ∧ st.s 5 = .ptr id5 0 0) 0 ⟨rfl, rfl, rfl, rfl, rfl⟩ ?_
    rintro m ⟨S, σc⟩ ⟨rfl, hσ, p0, p4, p5⟩
    simp only at hσ p0 p4 p5
    refine Runs.mix 7 ?_
    have r5 : σc id5 = some (gotO (.agg [.nils, vI p, vI 0])) := by rw [hσ]; exact upd_same
    have r4 : σc id4 = some (gotO (.agg [.nils, vI 0, vI 0])) := by rw [hσ, upd_ne n45]; exact g4
    rw [← hσ] at hsub
    have sg : ∀ c, signB c (l.drop p) = false := fun c => by rw [hd]; rfl
    (refine Runs.of_step Orc.nothing 300 ?_; simp -implicitDefEqProofs only [BB,seval,effR_some,effD_some,← decide_not,okind,vpre,vpure,intBin,intPre,strBin,strPre,popTo,argSlots,fldV,fldAV,subCells,idxVV,idxAAV,idxSV,sliceV,sliceSV,boundV,szIs,storeOp,storeS,setRowV,eff,extV,buildV,splice,eqSV,fitsL,eqCells,eqCell,minmaxV,capV,binBV,nilCheckV,bytesV,V.cells,V.stays,Orc.nothing,p0,p5,r5])
    refine Runs.pcall rfl rfl rfl (gsign_c l p 91 _) ?_
    rw [sg]
    (refine Runs.of_step Orc.nothing 300 ?_; simp -implicitDefEqProofs only [BB,seval,effR_some,effD_some,← decide_not,okind,vpre,vpure,intBin,intPre,strBin,strPre,popTo,argSlots,fldV,fldAV,subCells,idxVV,idxAAV,idxSV,sliceV,sliceSV,boundV,szIs,storeOp,storeS,setRowV,eff,extV,buildV,splice,eqSV,fitsL,eqCells,eqCell,minmaxV,capV,binBV,nilCheckV,bytesV,V.cells,V.stays,Orc.nothing,p0,p5,r5])
    refine Runs.pcall rfl rfl rfl (gsign_c l p 40 _) ?_
    rw [sg]
    (refine Runs.of_step Orc.nothing 300 ?_; simp -implicitDefEqProofs only [BB,seval,effR_some,effD_some,← decide_not,okind,vpre,vpure,intBin,intPre,strBin,strPre,popTo,argSlots,fldV,fldAV,subCells,idxVV,idxAAV,idxSV,sliceV,sliceSV,boundV,szIs,storeOp,storeS,setRowV,eff,extV,buildV,splice,eqSV,fitsL,eqCells,eqCell,minmaxV,capV,binBV,nilCheckV,bytesV,V.cells,V.stays,Orc.nothing,p0,p5,r5])
    refine Runs.pcall rfl rfl rfl (gsign_c l p 123 _) ?_
    rw [sg]
    (refine Runs.of_step Orc.nothing 300 ?_; simp -implicitDefEqProofs only [BB,seval,effR_some,effD_some,← decide_not,okind,vpre,vpure,intBin,intPre,strBin,strPre,popTo,argSlots,fldV,fldAV,subCells,idxVV,idxAAV,idxSV,sliceV,sliceSV,boundV,szIs,storeOp,storeS,setRowV,eff,extV,buildV,splice,eqSV,fitsL,eqCells,eqCell,minmaxV,capV,binBV,nilCheckV,bytesV,V.cells,V.stays,Orc.nothing,p0,p5,r5])
    refine Runs.pcall rfl rfl rfl (gsign_c l p 60 _) ?_
    rw [sg]
    (refine Runs.of_step Orc.nothing 300 ?_; simp -implicitDefEqProofs only [BB,seval,effR_some,effD_some,← decide_not,okind,vpre,vpure,intBin,intPre,strBin,strPre,popTo,argSlots,fldV,fldAV,subCells,idxVV,idxAAV,idxSV,sliceV,sliceSV,boundV,szIs,storeOp,storeS,setRowV,eff,extV,buildV,splice,eqSV,fitsL,eqCells,eqCell,minmaxV,capV,binBV,nilCheckV,bytesV,V.cells,V.stays,Orc.nothing,p0,p4,p5,r5,r4])
    exact ⟨.agg [.sl 20 [], vI p, vI 0], σ, hsub.updK f4, Wk.agg (by simp only [WkL]; exact ⟨Wk.nils 20, Wk.refl (hsub.updK f4) _, Wk.refl (hsub.updK f4) _, trivial⟩), rfl, rfl⟩
  | succ k ih =>
    intro p hp hk σ
    refine Contract.of_runs Tryz.func23 e23 k23 (by simp [c23]) ?_
    refine Runs.mix 7 ?_
    (refine Runs.of_step Orc.nothing 300 ?_; simp -implicitDefEqProofs only [BB,seval,← decide_not,okind,vpre,vpure,intBin,intPre,strBin,strPre,popTo,argSlots,fldV,fldAV,subCells,idxVV,idxAAV,idxSV,sliceV,sliceSV,boundV,szIs,storeOp,storeS,setRowV,eff,extV,buildV,splice,eqSV,fitsL,eqCells,eqCell,minmaxV,capV,binBV,nilCheckV,bytesV,V.cells,V.stays,Orc.nothing,c23])
    refine effR_new fun id4 σ4 s4 a4 f4 => ?_
    simp -implicitDefEqProofs only [BB,seval,← decide_not,okind,vpre,vpure,intBin,intPre,strBin,strPre,popTo,argSlots,fldV,fldAV,subCells,idxVV,idxAAV,idxSV,sliceV,sliceSV,boundV,szIs,storeOp,storeS,setRowV,eff,extV,buildV,splice,eqSV,fitsL,eqCells,eqCell,minmaxV,capV,binBV,nilCheckV,bytesV,V.cells,V.stays]
    refine effR_new fun id5 σ5 s5 a5 f5 => ?_
    simp -implicitDefEqProofs only [BB,seval,← decide_not,okind,vpre,vpure,intBin,intPre,strBin,strPre,popTo,argSlots,fldV,fldAV,subCells,idxVV,idxAAV,idxSV,sliceV,sliceSV,boundV,szIs,storeOp,storeS,setRowV,eff,extV,buildV,splice,eqSV,fitsL,eqCells,eqCell,minmaxV,capV,binBV,nilCheckV,bytesV,V.cells,V.stays,a5]
    have n45 : id4 ≠ id5 := ne_new a4 f5
    have f5' : σ id5 = none := s4.none f5
    have hsub5 : SubStore σ (upd σ5 id5 (gotO (.agg [.nils, vI p, vI 0]))) := (s4.trans s5).updK f5'
    have b4 : upd σ5 id5 (gotO (.agg [.nils, vI p, vI 0])) id4 = some (gotO (.agg [.nils, vI 0, vI 0])) := by rw [upd_ne n45]; exact s5 _ _ a4
    have inv0 : GInv (upd σ5 id5 (gotO (.agg [.nils, vI p, vI 0]))) (upd σ5 id5 (gotO (.agg [.nils, vI p, vI 0]))) id5 .nils [] p := ⟨Off.refl _ _, upd_same, OutV.start⟩
    have hK5 : upd σ5 id5 (gotO (.agg [.nils, vI p, vI 0])) id5 ≠ none := by rw [upd_same]; simp
    generalize upd σ5 id5 (gotO (.agg [.nils, vI p, vI 0])) = K at *
    have hwf := (nodesR_wf l.length (l.drop p)).2
    rw [List.length_drop] at hwf
    refine Runs.loop (fun m st => ∃ (xs : List Shp) (q : Nat) (v : V), m = l.length - q ∧ p ≤ q ∧ q ≤ l.length ∧ nodesR l.length (l.drop p) = (xs ++ (nodesR l.length (l.drop q)).1, (nodesR l.length (l.drop q)).2) ∧
        GInv K st.σ id5 v (toldL xs) q ∧ st.s 0 = encL l ∧ st.s 4 = .ptr id4 0 0 ∧ st.s 5 = .ptr id5 0 0) (l.length - p)
        ⟨[], p, .nils, rfl, Nat.le_refl _, hp, rfl, inv0, rfl, rfl, rfl⟩ ?_
    rintro m ⟨S, σc⟩ ⟨xs, q, v, rfl, hpq, hql, hT, inv, p0, p4, p5⟩
    simp only at inv p0 p4 p5
    have r5 := inv.r5
    have hout := inv.out
    have r4 : σc id4 = some (gotO (.agg [.nils, vI 0, vI 0])) := inv.off id4 n45 _ b4
    have hsubc : SubStore σ σc := fun j o ho => inv.off j (ne_new ho f5') _ (hsub5 _ _ ho)
    (refine Runs.of_step Orc.nothing 1 ?_; simp -implicitDefEqProofs only [BB,seval,← decide_not,okind,vpre,vpure,intBin,intPre,strBin,strPre,popTo,argSlots,fldV,fldAV,subCells,idxVV,idxAAV,idxSV,sliceV,sliceSV,boundV,szIs,storeOp,storeS,setRowV,eff,extV,buildV,splice,eqSV,fitsL,eqCells,eqCell,minmaxV,capV,binBV,nilCheckV,bytesV,V.cells,V.stays,s_zero,Orc.nothing,p0])
    refine Runs.cut (fun st => beg (l.drop q) ∧ st.σ = σc ∧ st.s 0 = encL l ∧ st.s 4 = .ptr id4 0 0 ∧ st.s 5 = .ptr id5 0 0) ?_ ?_
    · refine Runs.mix 7 ?_
      (refine Runs.of_step Orc.nothing 300 ?_; simp -implicitDefEqProofs only [BB,seval,effR_some,effD_some,← decide_not,okind,vpre,vpure,intBin,intPre,strBin,strPre,popTo,argSlots,fldV,fldAV,subCells,idxVV,idxAAV,idxSV,sliceV,sliceSV,boundV,szIs,storeOp,storeS,setRowV,eff,extV,buildV,splice,eqSV,fitsL,eqCells,eqCell,minmaxV,capV,binBV,nilCheckV,bytesV,V.cells,V.stays,Orc.nothing,p0,p5,r5])
      refine Runs.pcall rfl rfl rfl (gsign_c l q 91 _) ?_
      cases q1 : signB 91 (l.drop q) with
      | true =>
        (refine Runs.of_step Orc.nothing 300 ?_; simp -implicitDefEqProofs only [BB,seval,effR_some,effD_some,← decide_not,okind,vpre,vpure,intBin,intPre,strBin,strPre,popTo,argSlots,fldV,fldAV,subCells,idxVV,idxAAV,idxSV,sliceV,sliceSV,boundV,szIs,storeOp,storeS,setRowV,eff,extV,buildV,splice,eqSV,fitsL,eqCells,eqCell,minmaxV,capV,binBV,nilCheckV,bytesV,V.cells,V.stays,Orc.nothing,p0,p4,p5])
        exact .inl q1
      | false =>
        (refine Runs.of_step Orc.nothing 300 ?_; simp -implicitDefEqProofs only [BB,seval,effR_some,effD_some,← decide_not,okind,vpre,vpure,intBin,intPre,strBin,strPre,popTo,argSlots,fldV,fldAV,subCells,idxVV,idxAAV,idxSV,sliceV,sliceSV,boundV,szIs,storeOp,storeS,setRowV,eff,extV,buildV,splice,eqSV,fitsL,eqCells,eqCell,minmaxV,capV,binBV,nilCheckV,bytesV,V.cells,V.stays,Orc.nothing,p0,p5,r5])
        refine Runs.pcall rfl rfl rfl (gsign_c l q 40 _) ?_
        cases q2 : signB 40 (l.drop q) with
        | true =>
          (refine Runs.of_step Orc.nothing 300 ?_; simp -implicitDefEqProofs only [BB,seval,effR_some,effD_some,← decide_not,okind,vpre,vpure,intBin,intPre,strBin,strPre,popTo,argSlots,fldV,fldAV,subCells,idxVV,idxAAV,idxSV,sliceV,sliceSV,boundV,szIs,storeOp,storeS,setRowV,eff,extV,buildV,splice,eqSV,fitsL,eqCells,eqCell,minmaxV,capV,binBV,nilCheckV,bytesV,V.cells,V.stays,Orc.nothing,p0,p4,p5])
          exact .inr (.inl q2)
        | false =>
          (refine Runs.of_step Orc.nothing 300 ?_; simp -implicitDefEqProofs only [BB,seval,effR_some,effD_some,← decide_not,okind,vpre,vpure,intBin,intPre,strBin,strPre,popTo,argSlots,fldV,fldAV,subCells,idxVV,idxAAV,idxSV,sliceV,sliceSV,boundV,szIs,storeOp,storeS,setRowV,eff,extV,buildV,splice,eqSV,fitsL,eqCells,eqCell,minmaxV,capV,binBV,nilCheckV,bytesV,V.cells,V.stays,Orc.nothing,p0,p5,r5])
          refine Runs.pcall rfl rfl rfl (gsign_c l q 123 _) ?_
          cases q3 : signB 123 (l.drop q) with
          | true =>
            (refine Runs.of_step Orc.nothing 300 ?_; simp -implicitDefEqProofs only [BB,seval,effR_some,effD_some,← decide_not,okind,vpre,vpure,intBin,intPre,strBin,strPre,popTo,argSlots,fldV,fldAV,subCells,idxVV,idxAAV,idxSV,sliceV,sliceSV,boundV,szIs,storeOp,storeS,setRowV,eff,extV,buildV,splice,eqSV,fitsL,eqCells,eqCell,minmaxV,capV,binBV,nilCheckV,bytesV,V.cells,V.stays,Orc.nothing,p0,p4,p5])
            exact .inr (.inr (.inl q3))
          | false =>
            (refine Runs.of_step Orc.nothing 300 ?_; simp -implicitDefEqProofs only [BB,seval,effR_some,effD_some,← decide_not,okind,vpre,vpure,intBin,intPre,strBin,strPre,popTo,argSlots,fldV,fldAV,subCells,idxVV,idxAAV,idxSV,sliceV,sliceSV,boundV,szIs,storeOp,storeS,setRowV,eff,extV,buildV,splice,eqSV,fitsL,eqCells,eqCell,minmaxV,capV,binBV,nilCheckV,bytesV,V.cells,V.stays,Orc.nothing,p0,p5,r5])
            refine Runs.pcall rfl rfl rfl (gsign_c l q 60 _) ?_
            cases q4 : signB 60 (l.drop q) with
            | true =>
              (refine Runs.of_step Orc.nothing 300 ?_; simp -implicitDefEqProofs only [BB,seval,effR_some,effD_some,← decide_not,okind,vpre,vpure,intBin,intPre,strBin,strPre,popTo,argSlots,fldV,fldAV,subCells,idxVV,idxAAV,idxSV,sliceV,sliceSV,boundV,szIs,storeOp,storeS,setRowV,eff,extV,buildV,splice,eqSV,fitsL,eqCells,eqCell,minmaxV,capV,binBV,nilCheckV,bytesV,V.cells,V.stays,Orc.nothing,p0,p4,p5])
              exact .inr (.inr (.inr q4))
            | false =>
              have hg : gnodesR l p = (toldL xs, q, false) := by
                rw [gnodesR, hT, nodesR_none q1 q2 q3 q4, List.append_nil]
                exact toG_at hql
              rw [hg]
              (refine Runs.of_step Orc.nothing 300 ?_; simp -implicitDefEqProofs only [BB,seval,effR_some,effD_some,← decide_not,okind,vpre,vpure,intBin,intPre,strBin,strPre,popTo,argSlots,fldV,fldAV,subCells,idxVV,idxAAV,idxSV,sliceV,sliceSV,boundV,szIs,storeOp,storeS,setRowV,eff,extV,buildV,splice,eqSV,fitsL,eqCells,eqCell,minmaxV,capV,binBV,nilCheckV,bytesV,V.cells,V.stays,Orc.nothing,p0,p4,p5,r5,r4])
              have hs := hsubc.updK (o := gotO (.agg [v, vI q, vI 0])) f4
              exact ⟨.agg [.sl 20 ((toldL xs).map encN), vI q, vI 0], σ, hs, Wk.agg (by simp only [WkL]; exact ⟨(hout.upd_ne (by rw [b4]; simp)).wk hsub5 hs, Wk.refl hs _, Wk.refl hs _, trivial⟩), rfl, rfl⟩
    · rintro ⟨S', σ'⟩ ⟨hbeg, hσ', p0, p4, p5⟩
      simp only at hσ' p0 p4 p5
      have hσ' := hσ'.symm
      subst hσ'
      have hq := beg_lt hbeg
      refine Runs.mix 7 ?_
      (refine Runs.of_step Orc.nothing 300 ?_; simp -implicitDefEqProofs only [BB,seval,effR_some,effD_some,← decide_not,okind,vpre,vpure,intBin,intPre,strBin,strPre,popTo,argSlots,fldV,fldAV,subCells,idxVV,idxAAV,idxSV,sliceV,sliceSV,boundV,szIs,storeOp,storeS,setRowV,eff,extV,buildV,splice,eqSV,fitsL,eqCells,eqCell,minmaxV,capV,binBV,nilCheckV,bytesV,V.cells,V.stays,Orc.nothing,p0,p5,r5])
      refine Runs.pcall rfl rfl rfl (gone_c ih hl q hq (by omega) hbeg _) ?_
      have hst : nodesR l.length (l.drop q) = ((oneR l.length (l.drop q)).1 :: (nodesT l.length (oneR l.length (l.drop q)).2.1 (oneR l.length (l.drop q)).2.2).1, (nodesT l.length (oneR l.length (l.drop q)).2.1 (oneR l.length (l.drop q)).2.2).2) := by
        rw [← nodesR_one hbeg]
        exact nodes_fuel l.length (l.drop q) false l.length (l.length + 1) (by simp) (by simp) (by simp; omega)
      obtain ⟨hsf, hlt⟩ := one_suffix (f := l.length) hbeg
      have hsuf := suffix_drop (suf_trans ⟨l.take q, (List.take_append_drop q l).symm⟩ hsf)
      rw [List.length_drop] at hlt
      unfold goneR
      generalize oneR l.length (l.drop q) = x at *
      obtain ⟨x, rest, w⟩ := x
      simp only at hst hlt hsuf ⊢
      cases w with
      | true =>
        rw [nodesT_true] at hst
        have hg : gnodesR l p = ([], l.length - rest.length, true) := by rw [gnodesR, hT, hst]; rfl
        have hg2 : toG l.length (toldS x) (rest, true) = ([], l.length - rest.length, true) := rfl
        rw [hg, hg2]
        simp only [encG,if_true]
        have hc := encNs_cells []
        have hcs := encNs_stays []
        (refine Runs.of_step Orc.nothing 300 ?_; simp -implicitDefEqProofs only [BB,seval,← decide_not,okind,vpre,vpure,intBin,intPre,strBin,strPre,popTo,argSlots,fldV,fldAV,subCells,idxVV,idxAAV,idxSV,sliceV,sliceSV,boundV,szIs,storeOp,storeS,setRowV,eff,extV,buildV,splice,eqSV,fitsL,eqCells,eqCell,minmaxV,capV,binBV,nilCheckV,bytesV,V.cells,V.stays,Orc.nothing])
        refine effR_new fun id6 σ6 s6 a6 f6 => ?_
        have g4 := s6 _ _ r4
        have n6 : id4 ≠ id6 := ne_new r4 f6
        simp -implicitDefEqProofs only [BB,seval,← decide_not,okind,vpre,vpure,intBin,intPre,strBin,strPre,popTo,argSlots,fldV,fldAV,subCells,idxVV,idxAAV,idxSV,sliceV,sliceSV,boundV,szIs,storeOp,storeS,setRowV,eff,extV,buildV,splice,eqSV,fitsL,eqCells,eqCell,minmaxV,capV,binBV,nilCheckV,bytesV,V.cells,V.stays,p4,a6,hc,hcs,g4,upd_ne n6,upd_ne n6.symm]
        exact RetV.pure (((hsubc.trans s6).updK (hsubc.none f6)).updK f4) rfl
      | false =>
        have hg2 : toG l.length (toldS x) (rest, false) = (toldS x, l.length - rest.length, false) := rfl
        rw [hg2]
        simp only [encG,Bool.false_eq_true,if_false]
        rw [nodesT_false] at hst
        have htot : (toldL xs).length + (toldS x).length ≤ 1000000 := by
          rw [hT, hst, toldL_append, toldL, List.length_append, List.length_append] at hwf
          omega
        generalize hatq : l.length - rest.length = at' at *
        have hc := encNs_cells (toldS x)
        have hcs := encNs_stays (toldS x)
        have hsr := fun σ => srcNs σ (toldS x)
        generalize hvn : encNs (toldS x) = vn at *
        (refine Runs.of_step Orc.nothing 300 ?_; simp -implicitDefEqProofs only [BB,seval,← decide_not,okind,vpre,vpure,intBin,intPre,strBin,strPre,popTo,argSlots,fldV,fldAV,subCells,idxVV,idxAAV,idxSV,sliceV,sliceSV,boundV,szIs,storeOp,storeS,setRowV,eff,extV,buildV,splice,eqSV,fitsL,eqCells,eqCell,minmaxV,capV,binBV,nilCheckV,bytesV,V.cells,V.stays,Orc.nothing])
        refine effR_new fun id6 σ6 s6 a6 f6 => ?_
        have g5 := s6 _ _ r5
        have n56 : id5 ≠ id6 := ne_new r5 f6
        have f6' : σc id6 = none := f6
        obtain ⟨idA, hda, hdA⟩ := hout.dst' (show SubStore σc (upd σ6 id6 (gotO (.agg [vn, vI at', vI 0]))) from s6.updK f6')
        have hb : ((toldL xs).length + (toldS x).length) * 177 ≤ 140737488355328 := by omega
        have hda' : dstRows (upd σ6 id6 ⟨68, 3, [.agg [vn, .int .i64 at', .int .i64 0]]⟩) 58 20 v = some ((toldL xs).map encN, idA) := hda
        simp -implicitDefEqProofs only [BB,seval,← decide_not,okind,vpre,vpure,intBin,intPre,strBin,strPre,popTo,argSlots,fldV,fldAV,subCells,idxVV,idxAAV,idxSV,sliceV,sliceSV,boundV,szIs,storeOp,storeS,setRowV,eff,extV,buildV,splice,eqSV,fitsL,eqCells,eqCell,minmaxV,capV,binBV,nilCheckV,bytesV,V.cells,V.stays,p0,p5,a6,hc,hcs,g5,upd_ne n56,upd_ne n56.symm,hda',hsr,List.length_map,hb]
        refine effR_put fun id43 σ43 s43 a43 f43 => ?_
        have q5 : σ43 id5 = some (gotO (.agg [v, vI q, vI 0])) := keepA hdA s43 id5 _ hK5 (by rw [upd_ne n56]; exact g5)
        have q6 : σ43 id6 = some (gotO (.agg [vn, vI at', vI 0])) := by
          refine s43 _ _ ?_
          cases hA : idA with
          | none => exact upd_same
          | some j =>
            obtain ⟨_, o, ho⟩ := hdA j hA
            have : id6 ≠ j := fun e => by rw [← e, f6'] at ho; cases ho
            show del _ j id6 = _
            rw [del_ne this, upd_same]
        have hst0 := gstore0 (w := .own id43 0 ((toldL xs).length + (toldS x).length)) q5 rfl rfl
        have hst1 := gstore1 (σ := upd σ43 id5 (gotO (.agg [.own id43 0 ((toldL xs).length + (toldS x).length), vI q, vI 0]))) (a := (at' : Int)) upd_same
        simp -implicitDefEqProofs only [BB,seval,← decide_not,okind,vpre,vpure,intBin,intPre,strBin,strPre,popTo,argSlots,fldV,fldAV,subCells,idxVV,idxAAV,idxSV,sliceV,sliceSV,boundV,szIs,storeOp,setRowV,eff,extV,buildV,splice,eqSV,fitsL,eqCells,eqCell,minmaxV,capV,binBV,nilCheckV,bytesV,V.cells,V.stays,p0,p4,p5,hst0,q6,upd_ne n56,upd_ne n56.symm,hst1]
        refine ⟨l.length - at', by omega, xs ++ [x], at', .own id43 0 ((toldL xs).length + (toldS x).length), rfl, by omega, by omega, ?_, ?_⟩
        · rw [hT, hst, ← hsuf]; simp
        · have f43' : σc id43 = none := (show SubStore σc (upd σ6 id6 _) from s6.updK f6').none f43
          have ht : toldL (xs ++ [x]) = toldL xs ++ toldS x := by rw [toldL_append]; simp [toldL]
          have n43 : id43 ≠ id5 := fun e => by rw [e, r5] at f43'; cases f43'
          exact {
            off := by
              refine Off.upd fun j hj o ho => keepA hdA s43 j o (by rw [ho]; simp) ?_
              rw [upd_ne (ne_new (inv.off j hj o ho) f6')]
              exact s6 _ _ (inv.off j hj o ho)
            r5 := upd_same
            out := by
              rw [ht, List.map_append]
              refine OutV.new (by simp) (by rw [upd_ne n43]; exact a43) (inv.off.none r5 f43') }
theorem gread_nodes {l : List Tk} (hl : l.length ≤ 1000000) : PFun Tryz.prog 23 [encL l, vI 0] (encG (gnodesR l 0)) := gnodes_c hl l.length 0 (by omega) (by omega)
end Go.Vc
namespace Go.Vc
open Go.Proofs
theorem readG_c (s : List UInt8) (hs : s.length ≤ 1000000) : PFun Tryz.prog 10 [.str s] (readV (readR s)) := fun σ => by
  refine Contract.of_runs Tryz.func10 e10 k10 (by simp [c10]) ?_
  refine Runs.mix 9 ?_
  have h36 := rof_c s hs σ
  (refine Runs.of_step Orc.nothing 300 ?_; simp -implicitDefEqProofs only [BB,seval,effR_some,effD_some,← decide_not,okind,vpre,vpure,intBin,intPre,strBin,strPre,popTo,argSlots,fldV,fldAV,subCells,idxVV,idxAAV,idxSV,sliceV,sliceSV,boundV,szIs,storeOp,storeS,setRowV,eff,extV,buildV,splice,eqSV,fitsL,eqCells,eqCell,minmaxV,capV,binBV,nilCheckV,bytesV,V.cells,V.stays,Orc.nothing,c10])
  refine Runs.pcall rfl rfl rfl h36 ?_
  cases hl : ofI s false 0 with
  | bad p =>
    have hr : readR s = ([], (p : Int), 1) := by rw [readR, hl]
    rw [hr]
    (refine Runs.of_step Orc.nothing 300 ?_; simp -implicitDefEqProofs only [BB,seval,effR_some,effD_some,← decide_not,okind,vpre,vpure,intBin,intPre,strBin,strPre,popTo,argSlots,fldV,fldAV,subCells,idxVV,idxAAV,idxSV,sliceV,sliceSV,boundV,szIs,storeOp,storeS,setRowV,eff,extV,buildV,splice,eqSV,fitsL,eqCells,eqCell,minmaxV,capV,binBV,nilCheckV,bytesV,V.cells,V.stays,Orc.nothing,resT])
    exact retE (SubStore.refl _)
  | ok l =>
    have hll := ofI_len hl
    have hR : resT (.ok l) = .tup [encL l, vI 0, vI 0] := rfl
    rw [hR]
    (refine Runs.of_step Orc.nothing 300 ?_; simp -implicitDefEqProofs only [BB,seval,effR_some,effD_some,← decide_not,okind,vpre,vpure,intBin,intPre,strBin,strPre,popTo,argSlots,fldV,fldAV,subCells,idxVV,idxAAV,idxSV,sliceV,sliceSV,boundV,szIs,storeOp,storeS,setRowV,eff,extV,buildV,splice,eqSV,fitsL,eqCells,eqCell,minmaxV,capV,binBV,nilCheckV,bytesV,V.cells,V.stays,Orc.nothing])
    refine Runs.pcall rfl rfl rfl (gread_nodes (l := l) (by omega) _) ?_
    have hsuf := rest_suffix l.length l false
    rw [nodesT_false] at hsuf
    have hsuf := suffix_drop hsuf
    unfold gnodesR
    rw [List.drop_zero]
    have hrd : readR s = match (nodesR l.length l).2.1 with
        | t :: _ => ([], t.at', 1)
        | [] => if (nodesR l.length l).2.2 then ([], (s.length : Int), 1) else (toldL (nodesR l.length l).1, 0, 0) := by
      rw [readR, hl]
      all_goals rfl
    generalize nodesR l.length l = n at *
    obtain ⟨xs, rest, w⟩ := n
    simp only at hsuf hrd ⊢
    have hll2 := lenT l
    have hgo : ∃ ns : List Nd, ∃ b : Int, encG (toG l.length (toldL xs) (rest, w)) = .agg [encNs ns, vI ((l.length - rest.length : Nat) : Int), vI b] ∧ b = (if w then 1 else 0) ∧ (w = false → ns = toldL xs) := by
      cases w with
      | true => exact ⟨[], 1, rfl, rfl, fun h => by cases h⟩
      | false => exact ⟨toldL xs, 0, rfl, rfl, fun _ => rfl⟩
    obtain ⟨ns, b, hgo, hb, hns⟩ := hgo
    rw [hgo]
    (refine Runs.of_step Orc.nothing 300 ?_; simp -implicitDefEqProofs only [BB,seval,← decide_not,okind,vpre,vpure,intBin,intPre,strBin,strPre,popTo,argSlots,fldV,fldAV,subCells,idxVV,idxAAV,idxSV,sliceV,sliceSV,boundV,szIs,storeOp,storeS,setRowV,eff,extV,buildV,splice,eqSV,fitsL,eqCells,eqCell,minmaxV,capV,binBV,nilCheckV,bytesV,V.cells,V.stays,Orc.nothing])
    refine effR_new fun id8 σ8 s8 a8 f8 => ?_
    have hc := encNs_cells ns
    have hcs := encNs_stays ns
    generalize hvn : encNs ns = vn at *
    cases hrest : rest with
    | cons t r =>
      rw [hrest] at hsuf hrd
      simp only at hrd
      have hlt : l.length - (t :: r).length < l.length := by
        apply Classical.byContradiction
        intro h
        rw [List.drop_eq_nil_of_le (by omega)] at hsuf
        cases hsuf
      have hx := fun σ => idxT σ hlt
      have ht : l[l.length - (t :: r).length] = t := by
        rw [List.drop_eq_getElem_cons hlt] at hsuf
        exact (List.cons.inj hsuf).1.symm
      rw [ht] at hx
      have hlt' : (((l.length - (t :: r).length : Nat) : Int) < (l.length : Int)) = True := by simp only [eq_iff_iff,iff_true]; omega
      rw [hrd]
      generalize l.length - (t :: r).length = k at *
      simp -implicitDefEqProofs only [BB,seval,← decide_not,okind,vpre,vpure,intBin,intPre,strBin,strPre,popTo,argSlots,fldV,fldAV,subCells,idxVV,idxAAV,idxSV,sliceV,sliceSV,boundV,szIs,storeOp,storeS,setRowV,eff,extV,buildV,splice,eqSV,fitsL,eqCells,eqCell,minmaxV,capV,binBV,nilCheckV,bytesV,V.cells,V.stays,a8,hc,hcs,hll2,hlt',hx]
      exact retE (s8.updK f8)
    | nil =>
      rw [hrest] at hrd
      simp only at hrd
      have hlt' : (((l.length - ([] : List Tk).length : Nat) : Int) < (l.length : Int)) = False := by simp
      rw [hrd]
      generalize l.length - ([] : List Tk).length = k at *
      cases w with
      | true =>
        simp only [if_true] at hb
        subst hb
        simp only [if_true]
        simp -implicitDefEqProofs only [BB,seval,← decide_not,okind,vpre,vpure,intBin,intPre,strBin,strPre,popTo,argSlots,fldV,fldAV,subCells,idxVV,idxAAV,idxSV,sliceV,sliceSV,boundV,szIs,storeOp,storeS,setRowV,eff,extV,buildV,splice,eqSV,fitsL,eqCells,eqCell,minmaxV,capV,binBV,nilCheckV,bytesV,V.cells,V.stays,a8,hc,hcs,hll2,hlt']
        exact retE (s8.updK f8)
      | false =>
        simp only [Bool.false_eq_true,if_false] at hb
        subst hb
        simp only [Bool.false_eq_true,if_false]
        rw [hns rfl] at hvn
        simp -implicitDefEqProofs only [BB,seval,← decide_not,okind,vpre,vpure,intBin,intPre,strBin,strPre,popTo,argSlots,fldV,fldAV,subCells,idxVV,idxAAV,idxSV,sliceV,sliceSV,boundV,szIs,storeOp,storeS,setRowV,eff,extV,buildV,splice,eqSV,fitsL,eqCells,eqCell,minmaxV,capV,binBV,nilCheckV,bytesV,V.cells,V.stays,a8,hc,hcs,hll2,hlt']
        rw [← hvn]
        exact RetV.pure (s8.updK f8) rfl
end Go.Vc
namespace Go.Vc
def ofF : Nat → List UInt8 → Bool → Nat → Res
  | 0, _, _, _ => .ok []
  | f + 1, s, c, i =>
    if i < s.length then
      if sizeR s i = 0 then .bad i
      else if c then ofF f s (decide (byt s i ≠ 10)) (i + sizeR s i)
      else if byt s i = 35 then ofF f s true (i + 1)
      else if byt s i = 32 ∨ byt s i = 9 ∨ byt s i = 10 then ofF f s false (i + 1)
      else if 48 ≤ byt s i ∧ byt s i ≤ 57 then
        if numBad (digsAt s i) then .bad i
        else (ofF f s false (i + digLen (s.drop i))).cons ⟨2, 0, numR (digsAt s i), i⟩
      else (ofF f s false (i + sizeR s i)).cons ⟨1, runeR s i (sizeR s i), 0, i⟩
    else .ok []
theorem ofF_eq (s : List UInt8) : ∀ (f : Nat) (c : Bool) (i : Nat), s.length - i ≤ f → ofF f s c i = ofI s c i
  | 0, c, i, h => by rw [ofI_end (by omega)]; rfl
  | f + 1, c, i, h => by
    unfold ofF
    by_cases hlt : i < s.length
    · rw [if_pos hlt]
      by_cases hz : sizeR s i = 0
      · rw [if_pos hz, ofI_bad hlt hz]
      · rw [if_neg hz]
        cases c
        · rw [if_neg (by simp)]
          by_cases h35 : byt s i = 35
          · rw [if_pos h35, ofI_hash hlt hz h35, ofF_eq s f true (i + 1) (by omega)]
          · rw [if_neg h35]
            by_cases hw : byt s i = 32 ∨ byt s i = 9 ∨ byt s i = 10
            · rw [if_pos hw, ofI_white hlt hz hw, ofF_eq s f false (i + 1) (by omega)]
            · rw [if_neg hw]
              by_cases hd : 48 ≤ byt s i ∧ byt s i ≤ 57
              · have hdp := digLen_pos hd.1 hd.2
                rw [if_pos hd, ofI_num hlt hz hd, ofF_eq s f false _ (by omega)]
              · rw [if_neg hd, ofI_sign hlt hz (by omega), ofF_eq s f false _ (by omega)]
        · rw [if_pos rfl, ofI_com hlt hz, ofF_eq s f _ _ (by omega)]
    · rw [if_neg hlt, ofI_end hlt]
end Go.Vc
namespace Go.Vc
open Go.Proofs
def readF (s : List UInt8) : List Nd × Int × Int := match ofF s.length s false 0 with
  | .bad p => ([], p, 1)
  | .ok l => match (nodesR l.length l).2.1 with
    | t :: _ => ([], t.at', 1)
    | [] => if (nodesR l.length l).2.2 then ([], s.length, 1) else (toldL (nodesR l.length l).1, 0, 0)
theorem readF_eq (s : List UInt8) : readF s = readR s := by
  unfold readF readR
  rw [ofF_eq s s.length false 0 (by omega)]
  all_goals (cases ofI s false 0 <;> rfl)
end Go.Vc
