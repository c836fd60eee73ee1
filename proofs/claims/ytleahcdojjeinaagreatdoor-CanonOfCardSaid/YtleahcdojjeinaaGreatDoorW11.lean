/- Part 11 of the library of this proof. -/
import Derived.Test.YtleahcdojjeinaaGreatDoorW10
set_option linter.all false
namespace Go.Vc
open Go.Proofs
theorem canonBad_c (s : List UInt8) (hs : s.length ≤ 1000000) (he : (readR s).2.2 ≠ 0) : PFun Tryz.prog 5 [.str s] (.tup [.str [], vI (readR s).2.1, vI (readR s).2.2]) := fun σ => by
  refine Contract.of_runs Tryz.func5 e5 k5 (by simp [c5]) ?_
  refine Runs.mix 6 ?_
  (refine Runs.of_step Orc.nothing 300 ?_; simp -implicitDefEqProofs only [BB,seval,← decide_not,okind,vpre,vpure,intBin,intPre,strBin,strPre,popTo,argSlots,fldV,fldAV,subCells,idxVV,idxAAV,idxSV,sliceV,sliceSV,boundV,szIs,storeOp,storeS,setRowV,eff,extV,buildV,splice,eqSV,fitsL,eqCells,eqCell,minmaxV,capV,binBV,nilCheckV,bytesV,V.cells,V.stays,Orc.nothing,c5])
  refine Runs.pcall rfl rfl rfl (readOf_c s hs _) ?_
  have q : ((readR s).2.2 ≠ 0) = True := eq_true he
  (refine Runs.of_step Orc.nothing 300 ?_; simp -implicitDefEqProofs only [BB,seval,← decide_not,okind,vpre,vpure,intBin,intPre,strBin,strPre,popTo,argSlots,fldV,fldAV,subCells,idxVV,idxAAV,idxSV,sliceV,sliceSV,boundV,szIs,storeOp,storeS,setRowV,eff,extV,buildV,splice,eqSV,fitsL,eqCells,eqCell,minmaxV,capV,binBV,nilCheckV,bytesV,V.cells,V.stays,Orc.nothing,readV,q])
  exact RetV.same rfl
theorem canonOk_c (s : List UInt8) (hs : s.length ≤ 1000000) (xs : List Shp) (he : readR s = (toldL xs, 0, 0)) (hok : okSs xs) (hF : Fine (toldL xs)) (hcs : costs (toldL xs) ≤ 800000000) : PFun Tryz.prog 5 [.str s] (.tup [.str (txtL [10] xs), vI 0, vI 0]) := fun σ => by
  refine Contract.of_runs Tryz.func5 e5 k5 (by simp [c5]) ?_
  refine Runs.mix 6 ?_
  (refine Runs.of_step Orc.nothing 300 ?_; simp -implicitDefEqProofs only [BB,seval,← decide_not,okind,vpre,vpure,intBin,intPre,strBin,strPre,popTo,argSlots,fldV,fldAV,subCells,idxVV,idxAAV,idxSV,sliceV,sliceSV,boundV,szIs,storeOp,storeS,setRowV,eff,extV,buildV,splice,eqSV,fitsL,eqCells,eqCell,minmaxV,capV,binBV,nilCheckV,bytesV,V.cells,V.stays,Orc.nothing,c5])
  refine Runs.pcall rfl rfl rfl (readOf_c s hs _) ?_
  rw [he]
  (refine Runs.of_step Orc.nothing 300 ?_; simp -implicitDefEqProofs only [BB,seval,← decide_not,okind,vpre,vpure,intBin,intPre,strBin,strPre,popTo,argSlots,fldV,fldAV,subCells,idxVV,idxAAV,idxSV,sliceV,sliceSV,boundV,szIs,storeOp,storeS,setRowV,eff,extV,buildV,splice,eqSV,fitsL,eqCells,eqCell,minmaxV,capV,binBV,nilCheckV,bytesV,V.cells,V.stays,Orc.nothing,readV])
  refine Runs.pcall rfl rfl rfl (write_c xs hok hF hcs _) ?_
  (refine Runs.of_step Orc.nothing 300 ?_; simp -implicitDefEqProofs only [BB,seval,← decide_not,okind,vpre,vpure,intBin,intPre,strBin,strPre,popTo,argSlots,fldV,fldAV,subCells,idxVV,idxAAV,idxSV,sliceV,sliceSV,boundV,szIs,storeOp,storeS,setRowV,eff,extV,buildV,splice,eqSV,fitsL,eqCells,eqCell,minmaxV,capV,binBV,nilCheckV,bytesV,V.cells,V.stays,Orc.nothing])
  exact RetV.same rfl
theorem is7_c (s w : List UInt8) (hs : s.length ≤ 1000000) (xs : List Shp) (he : readR s = (toldL xs, 0, 0)) (hok : okSs xs) (hF : Fine (toldL xs)) (hcs : costs (toldL xs) ≤ 800000000) (ht : txtL [10] xs = w) : PFun Tryz.prog 7 [.str s, .str w] (.bool true) := fun σ => by
  refine Contract.of_runs Tryz.func7 e7 k7 (by simp [c7]) ?_
  refine Runs.mix 5 ?_
  (refine Runs.of_step Orc.nothing 300 ?_; simp -implicitDefEqProofs only [BB,seval,← decide_not,okind,vpre,vpure,intBin,intPre,strBin,strPre,popTo,argSlots,fldV,fldAV,subCells,idxVV,idxAAV,idxSV,sliceV,sliceSV,boundV,szIs,storeOp,storeS,setRowV,eff,extV,buildV,splice,eqSV,fitsL,eqCells,eqCell,minmaxV,capV,binBV,nilCheckV,bytesV,V.cells,V.stays,Orc.nothing,c7])
  refine Runs.pcall rfl rfl rfl (canonOk_c s hs xs he hok hF hcs _) ?_
  rw [ht]
  (refine Runs.of_step Orc.nothing 300 ?_; simp -implicitDefEqProofs only [BB,seval,← decide_not,okind,vpre,vpure,intBin,intPre,strBin,strPre,popTo,argSlots,fldV,fldAV,subCells,idxVV,idxAAV,idxSV,sliceV,sliceSV,boundV,szIs,storeOp,storeS,setRowV,eff,extV,buildV,splice,eqSV,fitsL,eqCells,eqCell,minmaxV,capV,binBV,nilCheckV,bytesV,V.cells,V.stays,Orc.nothing])
  exact RetV.same (by simp)
def exS : List Int := [5, 0, 0, 0, 0, 2, 2, 0, 2, 0, 0, 0]
def exX1 : List Shp := [.block exS [.text [10, 2, 30, 40]], .box 3 4]
def exX2 : List Shp := [.block [0, 0, 0, 0, 0, 2, 3, 0, 0, 0, 0, 0] [.float 1 2 2]]
theorem okL_of {s : List Int} (hl : s.length = 12) (h : (List.range 12).all (fun k => decide (loK k ≤ s.getD k 0) && decide (s.getD k 0 ≤ hiK k)) = true) : okL s := by
  intro k v hv
  have hk : k < 12 := by rw [← hl]; exact (List.getElem?_eq_some_iff.1 hv).1
  have := List.all_eq_true.1 h k (List.mem_range.2 hk)
  rw [List.getD_eq_getElem?_getD, hv] at this
  simpa using this
theorem exX1_ok : okSs exX1 :=
  ⟨⟨⟨rfl, okL_of rfl (by decide)⟩, ⟨⟨10, 2, 30, [40], rfl, by decide, by decide, by decide, by decide⟩, trivial⟩⟩, ⟨⟨by decide, by decide⟩, trivial⟩⟩
theorem exX2_ok : okSs exX2 :=
  ⟨⟨⟨rfl, okL_of rfl (by decide)⟩, ⟨⟨by decide, by decide, .inr rfl⟩, trivial⟩⟩, trivial⟩
theorem awake7_c : PFun Tryz.prog 4 [] (.bool true) := fun σ => by
  refine Contract.of_runs Tryz.func4 e4 k4 (by simp [c4]) ?_
  refine Runs.mix 5 ?_
  (refine Runs.of_step Orc.nothing 300 ?_; simp -implicitDefEqProofs only [BB,seval,← decide_not,okind,vpre,vpure,intBin,intPre,strBin,strPre,popTo,argSlots,fldV,fldAV,subCells,idxVV,idxAAV,idxSV,sliceV,sliceSV,boundV,szIs,storeOp,storeS,setRowV,eff,extV,buildV,splice,eqSV,fitsL,eqCells,eqCell,minmaxV,capV,binBV,nilCheckV,bytesV,V.cells,V.stays,Orc.nothing,c4])
  have h0 : (readR [91, 66, 50, 32, 109, 32, 53, 32, 40, 49, 48, 32, 50, 32, 51, 48, 32, 52, 48, 41, 32, 35, 32, 115, 111]).2.2 = 1 := by rw [← readF_eq]; kernel_rfl
  have h1 : readR [91, 66, 50, 32, 109, 32, 53, 32, 40, 49, 48, 32, 50, 32, 51, 48, 32, 52, 48, 41, 93, 32, 123, 32, 51, 32, 32, 52, 32, 125] = (toldL exX1, 0, 0) := by rw [← readF_eq]; kernel_rfl
  have h2 : readR [91, 111, 50, 32, 119, 51, 32, 109, 48, 32, 60, 82, 32, 49, 32, 50, 62, 93] = (toldL exX2, 0, 0) := by rw [← readF_eq]; kernel_rfl
  have h3 : readR [] = (toldL [], 0, 0) := by rw [← readF_eq]; kernel_rfl
  have t1 : txtL [10] exX1 = [91, 109, 53, 66, 50, 40, 49, 48, 32, 50, 32, 51, 48, 32, 52, 48, 41, 93, 10, 123, 51, 32, 52, 125, 10] := by kernel_rfl
  have t2 : txtL [10] exX2 = [91, 119, 51, 60, 82, 49, 32, 50, 62, 93, 10] := by kernel_rfl
  have c0 := canonBad_c [91, 66, 50, 32, 109, 32, 53, 32, 40, 49, 48, 32, 50, 32, 51, 48, 32, 52, 48, 41, 32, 35, 32, 115, 111] (by simp) (by rw [h0]; decide)
  rw [h0] at c0
  have f1 : Fine (toldL exX1) := ⟨by decide, by decide⟩
  have f2 : Fine (toldL exX2) := ⟨by decide, by decide⟩
  refine Runs.pcall rfl rfl rfl (c0 _) ?_
  (refine Runs.of_step Orc.nothing 300 ?_; simp -implicitDefEqProofs only [BB,seval,← decide_not,okind,vpre,vpure,intBin,intPre,strBin,strPre,popTo,argSlots,fldV,fldAV,subCells,idxVV,idxAAV,idxSV,sliceV,sliceSV,boundV,szIs,storeOp,storeS,setRowV,eff,extV,buildV,splice,eqSV,fitsL,eqCells,eqCell,minmaxV,capV,binBV,nilCheckV,bytesV,V.cells,V.stays,Orc.nothing])
  refine Runs.pcall rfl rfl rfl (is7_c _ _ (by simp) exX1 h1 exX1_ok f1 (by decide) t1 _) ?_
  (refine Runs.of_step Orc.nothing 300 ?_; simp -implicitDefEqProofs only [BB,seval,← decide_not,okind,vpre,vpure,intBin,intPre,strBin,strPre,popTo,argSlots,fldV,fldAV,subCells,idxVV,idxAAV,idxSV,sliceV,sliceSV,boundV,szIs,storeOp,storeS,setRowV,eff,extV,buildV,splice,eqSV,fitsL,eqCells,eqCell,minmaxV,capV,binBV,nilCheckV,bytesV,V.cells,V.stays,Orc.nothing])
  refine Runs.pcall rfl rfl rfl (is7_c _ _ (by simp) exX2 h2 exX2_ok f2 (by decide) t2 _) ?_
  (refine Runs.of_step Orc.nothing 300 ?_; simp -implicitDefEqProofs only [BB,seval,← decide_not,okind,vpre,vpure,intBin,intPre,strBin,strPre,popTo,argSlots,fldV,fldAV,subCells,idxVV,idxAAV,idxSV,sliceV,sliceSV,boundV,szIs,storeOp,storeS,setRowV,eff,extV,buildV,splice,eqSV,fitsL,eqCells,eqCell,minmaxV,capV,binBV,nilCheckV,bytesV,V.cells,V.stays,Orc.nothing])
  refine Runs.pcall rfl rfl rfl (is7_c _ _ (by simp) [] h3 trivial ⟨by simp [toldL], by simp [toldL]⟩ (by simp [toldL, costs]) rfl _) ?_
  (refine Runs.of_step Orc.nothing 300 ?_; simp -implicitDefEqProofs only [BB,seval,← decide_not,okind,vpre,vpure,intBin,intPre,strBin,strPre,popTo,argSlots,fldV,fldAV,subCells,idxVV,idxAAV,idxSV,sliceV,sliceSV,boundV,szIs,storeOp,storeS,setRowV,eff,extV,buildV,splice,eqSV,fitsL,eqCells,eqCell,minmaxV,capV,binBV,nilCheckV,bytesV,V.cells,V.stays,Orc.nothing])
  exact RetV.same rfl
end Go.Vc
namespace Go.Vc
open Go.Proofs
theorem rdig_c : ∀ (n : Nat), n ≤ 1099511627776 → PFun Tryz.prog 25 [vI n] (.str (Lib.decDigits n)) := by
  intro n
  induction n using Nat.strongRecOn with
  | _ n ih =>
  intro hn σ
  refine Contract.of_runs Tryz.func25 e25 k25 (by simp [c25]) ?_
  refine Runs.mix 4 ?_
  have hd : (n : Int).tmod 10 = ((n % 10 : Nat) : Int) := rfl
  have hq : (n : Int).tdiv 10 = ((n / 10 : Nat) : Int) := rfl
  have h10 : n % 10 < 10 := Nat.mod_lt _ (by omega)
  have r1 : inR .i64 (48 + ((n % 10 : Nat) : Int)) := inR_i64 (by omega) (by omega)
  have r2 : inR .u8 (48 + ((n % 10 : Nat) : Int)) := by unfold inR; rw [IntKind.wrap_u8]; omega
  have h48 : (48 + ((n % 10 : Nat) : Int)) = ((48 + n % 10 : Nat) : Int) := by omega
  (refine Runs.of_step Orc.nothing 300 ?_; simp -implicitDefEqProofs only [BB,seval,← decide_not,okind,vpre,vpure,intBin,intPre,strBin,strPre,popTo,argSlots,fldV,fldAV,subCells,idxVV,idxAAV,idxSV,sliceV,sliceSV,boundV,szIs,storeOp,storeS,setRowV,eff,extV,buildV,splice,eqSV,fitsL,eqCells,eqCell,minmaxV,capV,binBV,nilCheckV,bytesV,V.cells,V.stays,Orc.nothing,c25,hd,r1,r2])
  refine effR_new fun id1 σ1 s1 a1 f1 => ?_
  have hb : bytesV σ1 (.own id1 0 1) = some (.str [UInt8.ofNat (48 + n % 10)]) := by
    rw [h48] at a1
    simp only [bytesV,a1,List.length_cons,List.length_nil]
    rw [if_pos ⟨trivial, by omega⟩]
    simp only [List.drop_zero,List.take_succ_cons,List.take_zero,bytesOf,byteOf]
    rw [Int.toNat_natCast]; rfl
  by_cases h9 : n ≤ 9
  · have q9 : ((n : Int) > 9) = False := eq_false (by omega)
    simp -implicitDefEqProofs only [BB,seval,← decide_not,okind,vpre,vpure,intBin,intPre,strBin,strPre,popTo,argSlots,fldV,fldAV,subCells,idxVV,idxAAV,idxSV,sliceV,sliceSV,boundV,szIs,storeOp,storeS,setRowV,eff,extV,buildV,splice,eqSV,fitsL,eqCells,eqCell,minmaxV,capV,binBV,nilCheckV,V.cells,V.stays,hb,q9]
    refine RetV.pure s1 ?_
    rw [Lib.decDigits_one (by omega), Nat.mod_eq_of_lt (by omega)]
  · have q9 : ((n : Int) > 9) = True := eq_true (by omega)
    have r3 : inR .i64 ((n / 10 : Nat) : Int) := inR_i64 (by omega) (by omega)
    simp -implicitDefEqProofs only [BB,seval,← decide_not,okind,vpre,vpure,intBin,intPre,strBin,strPre,popTo,argSlots,fldV,fldAV,subCells,idxVV,idxAAV,idxSV,sliceV,sliceSV,boundV,szIs,storeOp,storeS,setRowV,eff,extV,buildV,splice,eqSV,fitsL,eqCells,eqCell,minmaxV,capV,binBV,nilCheckV,V.cells,V.stays,hb,q9,hq,r3]
    refine Runs.pcall rfl rfl rfl (ih (n / 10) (by omega) (by omega) _) ?_
    (refine Runs.of_step Orc.nothing 300 ?_; simp -implicitDefEqProofs only [BB,seval,← decide_not,okind,vpre,vpure,intBin,intPre,strBin,strPre,popTo,argSlots,fldV,fldAV,subCells,idxVV,idxAAV,idxSV,sliceV,sliceSV,boundV,szIs,storeOp,storeS,setRowV,eff,extV,buildV,splice,eqSV,fitsL,eqCells,eqCell,minmaxV,capV,binBV,nilCheckV,bytesV,V.cells,V.stays,Orc.nothing])
    have hl := dec_lim (n / 10) (by omega)
    rw [dec_step n (by omega)]
    exact ⟨by omega, RetV.pure s1 rfl⟩
theorem rdg_c (n : Int) (h : inN n) : PFun Tryz.prog 25 [vI n] (.str (dg n)) := by
  have := rdig_c n.toNat (by unfold inN at h; omega)
  rwa [show ((n.toNat : Nat) : Int) = n by unfold inN at h; omega] at this
theorem rtold_c (b : List UInt8) (n p : Int) (h : inN n) (hb : b.length ≤ 100) : PFun Tryz.prog 43 [.str b, vI n, vI p] (.str (if n = p then [] else b ++ dg n)) := fun σ => by
  refine Contract.of_runs Tryz.func43 e43 k43 (by simp [c43]) ?_
  refine Runs.mix 7 ?_
  by_cases hp : n = p
  · have q : (n = p) = True := eq_true hp
    (refine Runs.of_step Orc.nothing 300 ?_; simp -implicitDefEqProofs only [BB,seval,← decide_not,okind,vpre,vpure,intBin,intPre,strBin,strPre,popTo,argSlots,fldV,fldAV,subCells,idxVV,idxAAV,idxSV,sliceV,sliceSV,boundV,szIs,storeOp,storeS,setRowV,eff,extV,buildV,splice,eqSV,fitsL,eqCells,eqCell,minmaxV,capV,binBV,nilCheckV,bytesV,V.cells,V.stays,Orc.nothing,c43,q])
    exact RetV.same rfl
  · have q : (n = p) = False := eq_false hp
    (refine Runs.of_step Orc.nothing 300 ?_; simp -implicitDefEqProofs only [BB,seval,← decide_not,okind,vpre,vpure,intBin,intPre,strBin,strPre,popTo,argSlots,fldV,fldAV,subCells,idxVV,idxAAV,idxSV,sliceV,sliceSV,boundV,szIs,storeOp,storeS,setRowV,eff,extV,buildV,splice,eqSV,fitsL,eqCells,eqCell,minmaxV,capV,binBV,nilCheckV,bytesV,V.cells,V.stays,Orc.nothing,c43,q])
    refine Runs.pcall rfl rfl rfl (rdg_c n h _) ?_
    have hl := (dg_len h).1
    (refine Runs.of_step Orc.nothing 300 ?_; simp -implicitDefEqProofs only [BB,seval,← decide_not,okind,vpre,vpure,intBin,intPre,strBin,strPre,popTo,argSlots,fldV,fldAV,subCells,idxVV,idxAAV,idxSV,sliceV,sliceSV,boundV,szIs,storeOp,storeS,setRowV,eff,extV,buildV,splice,eqSV,fitsL,eqCells,eqCell,minmaxV,capV,binBV,nilCheckV,bytesV,V.cells,V.stays,Orc.nothing])
    exact ⟨by omega, RetV.same rfl⟩
end Go.Vc
namespace Go.Vc
open Go.Proofs
theorem told_len (b : UInt8) (n p : Int) (h : inN n) : (if n = p then [] else [b] ++ dg n).length ≤ 14 := by
  have := (dg_len h).1
  split
  · simp
  · simp; omega
set_option maxRecDepth 100000 in
set_option maxHeartbeats 1000000 in
theorem rstyle_c (s : List Int) (h : s.length = 12) (hin : ∀ j, inN (s.getD j 0)) : PFun Tryz.prog 24 [.agg (s.map vI)] (.str (attX s 12 0)) := fun σ => by
  obtain ⟨a0, a1, a2, a3, a4, a5, a6, a7, a8, a9, a10, a11, rfl⟩ : ∃ a0 a1 a2 a3 a4 a5 a6 a7 a8 a9 a10 a11, s = [a0, a1, a2, a3, a4, a5, a6, a7, a8, a9, a10, a11] := by
    match s, h with
    | [a0, a1, a2, a3, a4, a5, a6, a7, a8, a9, a10, a11], _ => exact ⟨_, _, _, _, _, _, _, _, _, _, _, _, rfl⟩
  have c0 := rtold_c [109] a0 0 (by simpa using hin 0) (by simp)
  have l0 := told_len 109 a0 0 (by simpa using hin 0)
  have c1 := rtold_c [110] a1 0 (by simpa using hin 1) (by simp)
  have l1 := told_len 110 a1 0 (by simpa using hin 1)
  have c2 := rtold_c [112] a2 0 (by simpa using hin 2) (by simp)
  have l2 := told_len 112 a2 0 (by simpa using hin 2)
  have c3 := rtold_c [113] a3 0 (by simpa using hin 3) (by simp)
  have l3 := told_len 113 a3 0 (by simpa using hin 3)
  have c4 := rtold_c [105] a4 0 (by simpa using hin 4) (by simp)
  have l4 := told_len 105 a4 0 (by simpa using hin 4)
  have c5 := rtold_c [111] a5 2 (by simpa using hin 5) (by simp)
  have l5 := told_len 111 a5 2 (by simpa using hin 5)
  have c6 := rtold_c [119] a6 2 (by simpa using hin 6) (by simp)
  have l6 := told_len 119 a6 2 (by simpa using hin 6)
  have c7 := rtold_c [104] a7 0 (by simpa using hin 7) (by simp)
  have l7 := told_len 104 a7 0 (by simpa using hin 7)
  have c8 := rtold_c [66] a8 0 (by simpa using hin 8) (by simp)
  have l8 := told_len 66 a8 0 (by simpa using hin 8)
  have c9 := rtold_c [65] a9 0 (by simpa using hin 9) (by simp)
  have l9 := told_len 65 a9 0 (by simpa using hin 9)
  have c10 := rtold_c [73] a10 0 (by simpa using hin 10) (by simp)
  have l10 := told_len 73 a10 0 (by simpa using hin 10)
  have c11 := rtold_c [99] a11 0 (by simpa using hin 11) (by simp)
  have l11 := told_len 99 a11 0 (by simpa using hin 11)
  have hat : attX [a0, a1, a2, a3, a4, a5, a6, a7, a8, a9, a10, a11] 12 0 = ((((((((((((if a0 = 0 then [] else [109] ++ dg a0) ++ (if a1 = 0 then [] else [110] ++ dg a1)) ++ (if a2 = 0 then [] else [112] ++ dg a2)) ++ (if a3 = 0 then [] else [113] ++ dg a3)) ++ (if a4 = 0 then [] else [105] ++ dg a4)) ++ (if a5 = 2 then [] else [111] ++ dg a5)) ++ (if a6 = 2 then [] else [119] ++ dg a6)) ++ (if a7 = 0 then [] else [104] ++ dg a7)) ++ (if a8 = 0 then [] else [66] ++ dg a8)) ++ (if a9 = 0 then [] else [65] ++ dg a9)) ++ (if a10 = 0 then [] else [73] ++ dg a10)) ++ (if a11 = 0 then [] else [99] ++ dg a11)) := by
    simp only [attX,plainS,lettersB,List.getD_cons_zero,List.getD_cons_succ,List.append_assoc,List.cons_append,List.nil_append,List.append_nil]
  rw [hat]
  generalize (if a0 = 0 then [] else [109] ++ dg a0) = w0 at *
  generalize (if a1 = 0 then [] else [110] ++ dg a1) = w1 at *
  generalize (if a2 = 0 then [] else [112] ++ dg a2) = w2 at *
  generalize (if a3 = 0 then [] else [113] ++ dg a3) = w3 at *
  generalize (if a4 = 0 then [] else [105] ++ dg a4) = w4 at *
  generalize (if a5 = 2 then [] else [111] ++ dg a5) = w5 at *
  generalize (if a6 = 2 then [] else [119] ++ dg a6) = w6 at *
  generalize (if a7 = 0 then [] else [104] ++ dg a7) = w7 at *
  generalize (if a8 = 0 then [] else [66] ++ dg a8) = w8 at *
  generalize (if a9 = 0 then [] else [65] ++ dg a9) = w9 at *
  generalize (if a10 = 0 then [] else [73] ++ dg a10) = w10 at *
  generalize (if a11 = 0 then [] else [99] ++ dg a11) = w11 at *
  refine Contract.of_runs Tryz.func24 e24 k24 (by simp [c24]) ?_
  refine Runs.mix 3 ?_
  (refine Runs.of_step Orc.nothing 300 ?_; simp -implicitDefEqProofs only [BB,seval,← decide_not,okind,vpre,vpure,intBin,intPre,strBin,strPre,popTo,argSlots,fldV,fldAV,subCells,idxVV,idxAAV,idxSV,sliceV,sliceSV,boundV,szIs,storeOp,storeS,setRowV,eff,extV,buildV,splice,eqSV,fitsL,eqCells,eqCell,minmaxV,capV,binBV,nilCheckV,bytesV,V.cells,V.stays,Orc.nothing,c24])
  refine effR_new fun id1 σ1 s1 r1 f1 => ?_
  simp -implicitDefEqProofs only [BB,seval,← decide_not,okind,vpre,vpure,intBin,intPre,strBin,strPre,popTo,argSlots,fldV,fldAV,subCells,idxVV,idxAAV,idxSV,sliceV,sliceSV,boundV,szIs,storeOp,storeS,setRowV,eff,extV,buildV,splice,eqSV,fitsL,eqCells,eqCell,minmaxV,capV,binBV,nilCheckV,bytesV,V.cells,V.stays,r1]
  refine Go.pcallG rfl rfl rfl c0 ?_
  (refine Go.of_step Orc.nothing 300 _ _ ?_; simp -implicitDefEqProofs only [BB,seval,← decide_not,okind,vpre,vpure,intBin,intPre,strBin,strPre,popTo,argSlots,fldV,fldAV,subCells,idxVV,idxAAV,idxSV,sliceV,sliceSV,boundV,szIs,storeOp,storeS,setRowV,eff,extV,buildV,splice,eqSV,fitsL,eqCells,eqCell,minmaxV,capV,binBV,nilCheckV,bytesV,V.cells,V.stays,Orc.nothing,r1])
  refine Go.pcallG rfl rfl rfl c1 ?_
  (refine Go.of_step Orc.nothing 300 _ _ ?_; simp -implicitDefEqProofs only [BB,seval,← decide_not,okind,vpre,vpure,intBin,intPre,strBin,strPre,popTo,argSlots,fldV,fldAV,subCells,idxVV,idxAAV,idxSV,sliceV,sliceSV,boundV,szIs,storeOp,storeS,setRowV,eff,extV,buildV,splice,eqSV,fitsL,eqCells,eqCell,minmaxV,capV,binBV,nilCheckV,bytesV,V.cells,V.stays,Orc.nothing,r1])
  refine ⟨by (try simp only [List.length_append]); omega, ?_⟩
  refine Go.pcallG rfl rfl rfl c2 ?_
  (refine Go.of_step Orc.nothing 300 _ _ ?_; simp -implicitDefEqProofs only [BB,seval,← decide_not,okind,vpre,vpure,intBin,intPre,strBin,strPre,popTo,argSlots,fldV,fldAV,subCells,idxVV,idxAAV,idxSV,sliceV,sliceSV,boundV,szIs,storeOp,storeS,setRowV,eff,extV,buildV,splice,eqSV,fitsL,eqCells,eqCell,minmaxV,capV,binBV,nilCheckV,bytesV,V.cells,V.stays,Orc.nothing,r1])
  refine ⟨by (try simp only [List.length_append]); omega, ?_⟩
  refine Go.pcallG rfl rfl rfl c3 ?_
  (refine Go.of_step Orc.nothing 300 _ _ ?_; simp -implicitDefEqProofs only [BB,seval,← decide_not,okind,vpre,vpure,intBin,intPre,strBin,strPre,popTo,argSlots,fldV,fldAV,subCells,idxVV,idxAAV,idxSV,sliceV,sliceSV,boundV,szIs,storeOp,storeS,setRowV,eff,extV,buildV,splice,eqSV,fitsL,eqCells,eqCell,minmaxV,capV,binBV,nilCheckV,bytesV,V.cells,V.stays,Orc.nothing,r1])
  refine ⟨by (try simp only [List.length_append]); omega, ?_⟩
  refine Go.pcallG rfl rfl rfl c4 ?_
  (refine Go.of_step Orc.nothing 300 _ _ ?_; simp -implicitDefEqProofs only [BB,seval,← decide_not,okind,vpre,vpure,intBin,intPre,strBin,strPre,popTo,argSlots,fldV,fldAV,subCells,idxVV,idxAAV,idxSV,sliceV,sliceSV,boundV,szIs,storeOp,storeS,setRowV,eff,extV,buildV,splice,eqSV,fitsL,eqCells,eqCell,minmaxV,capV,binBV,nilCheckV,bytesV,V.cells,V.stays,Orc.nothing,r1])
  refine ⟨by (try simp only [List.length_append]); omega, ?_⟩
  refine Go.pcallG rfl rfl rfl c5 ?_
  (refine Go.of_step Orc.nothing 300 _ _ ?_; simp -implicitDefEqProofs only [BB,seval,← decide_not,okind,vpre,vpure,intBin,intPre,strBin,strPre,popTo,argSlots,fldV,fldAV,subCells,idxVV,idxAAV,idxSV,sliceV,sliceSV,boundV,szIs,storeOp,storeS,setRowV,eff,extV,buildV,splice,eqSV,fitsL,eqCells,eqCell,minmaxV,capV,binBV,nilCheckV,bytesV,V.cells,V.stays,Orc.nothing,r1])
  refine ⟨by (try simp only [List.length_append]); omega, ?_⟩
  refine Go.pcallG rfl rfl rfl c6 ?_
  (refine Go.of_step Orc.nothing 300 _ _ ?_; simp -implicitDefEqProofs only [BB,seval,← decide_not,okind,vpre,vpure,intBin,intPre,strBin,strPre,popTo,argSlots,fldV,fldAV,subCells,idxVV,idxAAV,idxSV,sliceV,sliceSV,boundV,szIs,storeOp,storeS,setRowV,eff,extV,buildV,splice,eqSV,fitsL,eqCells,eqCell,minmaxV,capV,binBV,nilCheckV,bytesV,V.cells,V.stays,Orc.nothing,r1])
  refine ⟨by (try simp only [List.length_append]); omega, ?_⟩
  refine Go.pcallG rfl rfl rfl c7 ?_
  (refine Go.of_step Orc.nothing 300 _ _ ?_; simp -implicitDefEqProofs only [BB,seval,← decide_not,okind,vpre,vpure,intBin,intPre,strBin,strPre,popTo,argSlots,fldV,fldAV,subCells,idxVV,idxAAV,idxSV,sliceV,sliceSV,boundV,szIs,storeOp,storeS,setRowV,eff,extV,buildV,splice,eqSV,fitsL,eqCells,eqCell,minmaxV,capV,binBV,nilCheckV,bytesV,V.cells,V.stays,Orc.nothing,r1])
  refine ⟨by (try simp only [List.length_append]); omega, ?_⟩
  refine Go.pcallG rfl rfl rfl c8 ?_
  (refine Go.of_step Orc.nothing 300 _ _ ?_; simp -implicitDefEqProofs only [BB,seval,← decide_not,okind,vpre,vpure,intBin,intPre,strBin,strPre,popTo,argSlots,fldV,fldAV,subCells,idxVV,idxAAV,idxSV,sliceV,sliceSV,boundV,szIs,storeOp,storeS,setRowV,eff,extV,buildV,splice,eqSV,fitsL,eqCells,eqCell,minmaxV,capV,binBV,nilCheckV,bytesV,V.cells,V.stays,Orc.nothing,r1])
  refine ⟨by (try simp only [List.length_append]); omega, ?_⟩
  refine Go.pcallG rfl rfl rfl c9 ?_
  (refine Go.of_step Orc.nothing 300 _ _ ?_; simp -implicitDefEqProofs only [BB,seval,← decide_not,okind,vpre,vpure,intBin,intPre,strBin,strPre,popTo,argSlots,fldV,fldAV,subCells,idxVV,idxAAV,idxSV,sliceV,sliceSV,boundV,szIs,storeOp,storeS,setRowV,eff,extV,buildV,splice,eqSV,fitsL,eqCells,eqCell,minmaxV,capV,binBV,nilCheckV,bytesV,V.cells,V.stays,Orc.nothing,r1])
  refine ⟨by (try simp only [List.length_append]); omega, ?_⟩
  refine Go.pcallG rfl rfl rfl c10 ?_
  (refine Go.of_step Orc.nothing 300 _ _ ?_; simp -implicitDefEqProofs only [BB,seval,← decide_not,okind,vpre,vpure,intBin,intPre,strBin,strPre,popTo,argSlots,fldV,fldAV,subCells,idxVV,idxAAV,idxSV,sliceV,sliceSV,boundV,szIs,storeOp,storeS,setRowV,eff,extV,buildV,splice,eqSV,fitsL,eqCells,eqCell,minmaxV,capV,binBV,nilCheckV,bytesV,V.cells,V.stays,Orc.nothing,r1])
  refine ⟨by (try simp only [List.length_append]); omega, ?_⟩
  refine Go.pcallG rfl rfl rfl c11 ?_
  (refine Go.of_step Orc.nothing 300 _ _ ?_; simp -implicitDefEqProofs only [BB,seval,← decide_not,okind,vpre,vpure,intBin,intPre,strBin,strPre,popTo,argSlots,fldV,fldAV,subCells,idxVV,idxAAV,idxSV,sliceV,sliceSV,boundV,szIs,storeOp,storeS,setRowV,eff,extV,buildV,splice,eqSV,fitsL,eqCells,eqCell,minmaxV,capV,binBV,nilCheckV,bytesV,V.cells,V.stays,Orc.nothing,r1])
  exact ⟨by simp only [List.length_append]; omega, RetV.pure s1 rfl⟩
end Go.Vc
namespace Go.Vc
open Go.Proofs
def wordsX (ws : List Int) : List UInt8 := ws.flatMap fun w => 32 :: dg w
theorem joinX_flat : ∀ (a : Int) (ws : List Int), joinX (a :: ws) = dg a ++ wordsX ws
  | a, [] => by simp [joinX, wordsX]
  | a, b :: ws => by rw [joinX, joinX_flat b ws]; simp [wordsX]
theorem wordsX_take (ws : List Int) (i : Nat) (h : i < ws.length) : wordsX (ws.take (i + 1)) = wordsX (ws.take i) ++ (32 :: dg ws[i]) := by
  unfold wordsX; rw [List.take_succ_eq_append_getElem h, List.flatMap_append]; simp
theorem wordsX_len {ws : List Int} (h : ∀ n ∈ ws, inN n) : (wordsX ws).length ≤ 14 * ws.length := by
  induction ws with
  | nil => simp [wordsX]
  | cons a ws ih =>
    have h1 := ih (fun n hn => h n (by simp [hn]))
    have h2 := (dg_len (h a (by simp))).1
    simp only [wordsX,List.flatMap_cons,List.length_append,List.length_cons] at h1 ⊢
    omega
theorem window_cons {l : List Nd} {a q : Nat} {x : Nd} {tl : List Nd} (h : (l.drop a).take (q - a) = x :: tl) (hq : q ≤ l.length) : a < q ∧ (∃ h : a < l.length, l[a] = x) ∧ ∀ k, k ≤ (x :: tl).length → (l.drop (a + k)).take (q - (a + k)) = (x :: tl).drop k := by
  have hl : ((l.drop a).take (q - a)).length = (x :: tl).length := by rw [h]
  simp only [List.length_take,List.length_drop,List.length_cons] at hl
  have ha : a < q := by omega
  refine ⟨ha, ⟨by omega, ?_⟩, fun k hk => ?_⟩
  · have : ((l.drop a).take (q - a))[0]? = some x := by rw [h]; rfl
    rw [List.getElem?_take, if_pos (by omega), List.getElem?_drop, Nat.add_zero, List.getElem?_eq_getElem (by omega)] at this
    simpa using this
  · rw [← h, List.drop_take, List.drop_drop]
    congr 1; omega
theorem encI_staysA (l : List Int) : (encI l).stays = true := rfl
def textCells (x : Nd) : List V := [vI 2, vI x.size, vI x.st.top, vI x.st.bottom, vI x.st.padTop, vI x.st.padBottom, vI x.st.inset, vI x.st.orphans, vI x.st.widows, vI x.st.head, vI x.st.before, vI x.st.after, vI x.st.inside, vI x.st.clear,
  vI x.line, vI x.space, encI x.words, vI x.side, vI x.w, vI x.h]
set_option maxRecDepth 100000 in
theorem rtext_c : ∀ (m : Nat) (xs : List Shp), (toldL xs).length < m → okSs xs → ∀ (e : List UInt8) (l : List Nd) (p q : Nat), e.length ≤ 1 → costs (toldL xs) ≤ 800000000 → l.length ≤ 100000000 → q ≤ l.length → (l.drop p).take (q - p) = toldL xs → p ≤ q →
    PFun Tryz.prog 11 [encNs l, vI p, vI q, .str e] (.str (txtL e xs)) := by
  intro m
  induction m with
  | zero => intro xs hm; omega
  | succ m ih => ?_
  intro xs hm hok e l p q he hb hbig hq hw hpq σ
  refine Contract.of_runs Tryz.func11 e11 k11 (by simp [c11]) ?_
  refine Runs.mix 12 ?_
  (refine Runs.of_step Orc.nothing 300 ?_; simp -implicitDefEqProofs only [BB,seval,← decide_not,okind,vpre,vpure,intBin,intPre,strBin,strPre,popTo,argSlots,fldV,fldAV,subCells,idxVV,idxAAV,idxSV,sliceV,sliceSV,boundV,szIs,storeOp,storeS,setRowV,eff,extV,buildV,splice,eqSV,fitsL,eqCells,eqCell,minmaxV,capV,binBV,nilCheckV,bytesV,V.cells,V.stays,Orc.nothing,c11])
  refine Runs.loop (fun z st => ∃ (dn rs : List Shp) (a : Nat), xs = dn ++ rs ∧ z = rs.length ∧ (l.drop a).take (q - a) = toldL rs ∧ a ≤ q ∧ SubStore σ st.σ ∧ st.s 0 = encNs l ∧ st.s 1 = vI a ∧ st.s 2 = vI q ∧ st.s 3 = .str e ∧ st.s 9 = .str (txtL e dn)) xs.length ?_ ?_
  · exact ⟨[], xs, p, rfl, rfl, hw, hpq, SubStore.refl _, rfl, rfl, rfl, rfl, rfl⟩
  rintro z ⟨S, σ1⟩ ⟨dn, rs, a, rfl, rfl, hwa, haq, hsub, h0, h1, h2, h3, h9⟩
  simp only at h0 h1 h2 h3 h9 hsub
  refine Runs.mix 12 ?_
  cases rs with
  | nil =>
    have ha : a = q := by
      have := congrArg List.length hwa
      simp only [List.length_take,List.length_drop,toldL,List.length_nil] at this
      omega
    have hlt : ((a : Int) < (q : Int)) = False := eq_false (by omega)
    (refine Runs.of_step Orc.nothing 300 ?_; simp -implicitDefEqProofs only [BB,seval,← decide_not,okind,vpre,vpure,intBin,intPre,strBin,strPre,popTo,argSlots,fldV,fldAV,subCells,idxVV,idxAAV,idxSV,sliceV,sliceSV,boundV,szIs,storeOp,storeS,setRowV,eff,extV,buildV,splice,eqSV,fitsL,eqCells,eqCell,minmaxV,capV,binBV,nilCheckV,bytesV,V.cells,V.stays,Orc.nothing,h0,h1,h2,h3,h9,hlt])
    exact RetV.pure hsub (by simp)
  | cons y rs =>
    obtain ⟨hoky, hokr⟩ := okSs_right hok
    have hcst := hb
    rw [toldL_append, toldL, costs_app, costs_app] at hcst
    have hdl := txtL_len dn (okSs_left hok) e he
    have hyl := txtS_len y hoky
    have hnext : dn ++ y :: rs = (dn ++ [y]) ++ rs := by simp
    have htxt : txtL e (dn ++ [y]) = txtL e dn ++ (txtS y ++ e) := by rw [txtL_append]; simp [txtL]
    generalize hD : txtL e dn = D at *
    cases y with
    | box w h =>
      have iw := inN_of hoky.1
      have ih' := inN_of hoky.2
      have hL : toldL (.box w h :: rs) = ndS (.box w h) :: toldL rs := rfl
      rw [hL] at hwa
      obtain ⟨g1, ⟨g2, g3⟩, g4⟩ := window_cons hwa hq
      have g5 := g4 1 (by simp)
      have hix := fun σ => idxAV_encNs (σ := σ) (l := l) g2
      rw [g3] at hix
      have hlt : ((a : Int) < (q : Int)) = True := eq_true (by omega)
      have k1 : (ndS (.box w h)).kind = 3 := rfl
      have k2 : (ndS (.box w h)).size = 1 := rfl
      have k3 : (ndS (.box w h)).w = w := rfl
      have k4 : (ndS (.box w h)).h = h := rfl
      have d1 := (dg_len iw).1
      have d2 := (dg_len ih').1
      have r1 : inR .i64 ((a : Int) + 1) := inR_i64 (by omega) (by omega)
      generalize ndS (.box w h) = x at *
      (refine Runs.of_step Orc.nothing 300 ?_; simp -implicitDefEqProofs only [BB,seval,← decide_not,okind,vpre,vpure,intBin,intPre,strBin,strPre,popTo,argSlots,fldV,fldAV,subCells,idxVV,idxAAV,idxSV,sliceV,sliceSV,boundV,szIs,storeOp,storeS,setRowV,eff,extV,buildV,splice,eqSV,fitsL,eqCells,eqCell,minmaxV,capV,binBV,nilCheckV,bytesV,V.cells,V.stays,Orc.nothing,h0,h1,h2,h3,h9,hlt,hix,loadV_rp_node,encN,Nd.cells,encI_staysA])
      refine effR_new fun id6 σ6 s6 r6 f6 => ?_
      simp -implicitDefEqProofs only [BB,seval,← decide_not,okind,vpre,vpure,intBin,intPre,strBin,strPre,popTo,argSlots,fldV,fldAV,subCells,idxVV,idxAAV,idxSV,sliceV,sliceSV,boundV,szIs,storeOp,storeS,setRowV,eff,extV,buildV,splice,eqSV,fitsL,eqCells,eqCell,minmaxV,capV,binBV,nilCheckV,bytesV,V.cells,V.stays,r6,h0,h1,h2,h3,h9,k1,encI_staysA]
      refine ⟨by omega, ?_⟩
      refine Go.pcallG rfl rfl rfl (rdg_c x.w (by rw [k3]; exact iw)) ?_
      rw [← k3] at d1
      rw [← k4] at d2
      (refine Go.of_step Orc.nothing 300 _ _ ?_; simp -implicitDefEqProofs only [BB,seval,← decide_not,okind,vpre,vpure,intBin,intPre,strBin,strPre,popTo,argSlots,fldV,fldAV,subCells,idxVV,idxAAV,idxSV,sliceV,sliceSV,boundV,szIs,storeOp,storeS,setRowV,eff,extV,buildV,splice,eqSV,fitsL,eqCells,eqCell,minmaxV,capV,binBV,nilCheckV,bytesV,V.cells,V.stays,Orc.nothing,r6,h0,h1,h2,h3,h9,k1,encI_staysA])
      refine ⟨by simp only [List.length_append,List.length_cons,List.length_nil]; omega, by simp only [List.length_append,List.length_cons,List.length_nil]; omega, ?_⟩
      refine Go.pcallG rfl rfl rfl (rdg_c x.h (by rw [k4]; exact ih')) ?_
      (refine Go.of_step Orc.nothing 300 _ _ ?_; simp -implicitDefEqProofs only [BB,seval,← decide_not,okind,vpre,vpure,intBin,intPre,strBin,strPre,popTo,argSlots,fldV,fldAV,subCells,idxVV,idxAAV,idxSV,sliceV,sliceSV,boundV,szIs,storeOp,storeS,setRowV,eff,extV,buildV,splice,eqSV,fitsL,eqCells,eqCell,minmaxV,capV,binBV,nilCheckV,bytesV,V.cells,V.stays,Orc.nothing,r6,h0,h1,h2,h3,h9,k1,k2,r1,encI_staysA])
      refine ⟨by simp only [List.length_append,List.length_cons,List.length_nil]; omega, by simp only [List.length_append,List.length_cons,List.length_nil]; omega, by simp only [List.length_append,List.length_cons,List.length_nil]; omega, _, Nat.lt_succ_self _, dn ++ [.box w h], rs, a + 1, hnext, rfl, by simpa using g5, by omega, hsub.trans (s6.updK f6), by simp, ?_⟩
      rw [htxt, txtS, k3, k4]; simp [joinX]
    | float w h d =>
      have iw := inN_of hoky.1
      have ih' := inN_of hoky.2.1
      have hL : toldL (.float w h d :: rs) = ndS (.float w h d) :: toldL rs := rfl
      rw [hL] at hwa
      obtain ⟨g1, ⟨g2, g3⟩, g4⟩ := window_cons hwa hq
      have g5 := g4 1 (by simp)
      have hix := fun σ => idxAV_encNs (σ := σ) (l := l) g2
      rw [g3] at hix
      have hlt : ((a : Int) < (q : Int)) = True := eq_true (by omega)
      have k1 : (ndS (.float w h d)).kind = 4 := rfl
      have k2 : (ndS (.float w h d)).size = 1 := rfl
      have k3 : (ndS (.float w h d)).w = w := rfl
      have k4 : (ndS (.float w h d)).h = h := rfl
      have k5 : (ndS (.float w h d)).side = d := rfl
      have d1 := (dg_len iw).1
      have d2 := (dg_len ih').1
      have r1 : inR .i64 ((a : Int) + 1) := inR_i64 (by omega) (by omega)
      have hd := hoky.2.2
      generalize ndS (.float w h d) = x at *
      rw [← k3] at d1
      rw [← k4] at d2
      rcases hd with rfl | rfl
      all_goals
        (refine Runs.of_step Orc.nothing 300 ?_; simp -implicitDefEqProofs only [BB,seval,← decide_not,okind,vpre,vpure,intBin,intPre,strBin,strPre,popTo,argSlots,fldV,fldAV,subCells,idxVV,idxAAV,idxSV,sliceV,sliceSV,boundV,szIs,storeOp,storeS,setRowV,eff,extV,buildV,splice,eqSV,fitsL,eqCells,eqCell,minmaxV,capV,binBV,nilCheckV,bytesV,V.cells,V.stays,Orc.nothing,h0,h1,h2,h3,h9,hlt,hix,loadV_rp_node,encN,Nd.cells,encI_staysA])
        refine effR_new fun id6 σ6 s6 r6 f6 => ?_
        simp -implicitDefEqProofs only [BB,seval,← decide_not,okind,vpre,vpure,intBin,intPre,strBin,strPre,popTo,argSlots,fldV,fldAV,subCells,idxVV,idxAAV,idxSV,sliceV,sliceSV,boundV,szIs,storeOp,storeS,setRowV,eff,extV,buildV,splice,eqSV,fitsL,eqCells,eqCell,minmaxV,capV,binBV,nilCheckV,bytesV,V.cells,V.stays,r6,h0,h1,h2,h3,h9,k1,k5,encI_staysA]
        refine ⟨by omega, ?_⟩
        refine Go.pcallG rfl rfl rfl (rdg_c x.w (by rw [k3]; exact iw)) ?_
        (refine Go.of_step Orc.nothing 300 _ _ ?_; simp -implicitDefEqProofs only [BB,seval,← decide_not,okind,vpre,vpure,intBin,intPre,strBin,strPre,popTo,argSlots,fldV,fldAV,subCells,idxVV,idxAAV,idxSV,sliceV,sliceSV,boundV,szIs,storeOp,storeS,setRowV,eff,extV,buildV,splice,eqSV,fitsL,eqCells,eqCell,minmaxV,capV,binBV,nilCheckV,bytesV,V.cells,V.stays,Orc.nothing,r6,h0,h1,h2,h3,h9,k1,k5,encI_staysA])
        refine ⟨by simp only [List.length_append,List.length_cons,List.length_nil]; omega, by simp only [List.length_append,List.length_cons,List.length_nil]; omega, ?_⟩
        refine Go.pcallG rfl rfl rfl (rdg_c x.h (by rw [k4]; exact ih')) ?_
        (refine Go.of_step Orc.nothing 300 _ _ ?_; simp -implicitDefEqProofs only [BB,seval,← decide_not,okind,vpre,vpure,intBin,intPre,strBin,strPre,popTo,argSlots,fldV,fldAV,subCells,idxVV,idxAAV,idxSV,sliceV,sliceSV,boundV,szIs,storeOp,storeS,setRowV,eff,extV,buildV,splice,eqSV,fitsL,eqCells,eqCell,minmaxV,capV,binBV,nilCheckV,bytesV,V.cells,V.stays,Orc.nothing,r6,h0,h1,h2,h3,h9,k1,k2,k5,r1,encI_staysA])
        refine ⟨by simp only [List.length_append,List.length_cons,List.length_nil]; omega, by simp only [List.length_append,List.length_cons,List.length_nil]; omega, by simp only [List.length_append,List.length_cons,List.length_nil]; omega, _, Nat.lt_succ_self _, dn ++ [.float w h _], rs, a + 1, hnext, rfl, by simpa using g5, by omega, hsub.trans (s6.updK f6), by simp, ?_⟩
        rw [htxt, txtS, k3, k4]; simp [joinX]
    | text ns =>
      obtain ⟨hin, hln⟩ := okT_in hoky
      have hL : toldL (.text ns :: rs) = ndS (.text ns) :: toldL rs := rfl
      rw [hL] at hwa
      obtain ⟨g1, ⟨g2, g3⟩, g4⟩ := window_cons hwa hq
      have g5 := g4 1 (by simp)
      have hix := fun σ => idxAV_encNs (σ := σ) (l := l) g2
      rw [g3] at hix
      have hlt : ((a : Int) < (q : Int)) = True := eq_true (by omega)
      have k1 : (ndS (.text ns)).kind = 2 := rfl
      have k2 : (ndS (.text ns)).size = 1 := rfl
      have kx : ns = (ndS (.text ns)).line :: (ndS (.text ns)).space :: (ndS (.text ns)).words := by
        match ns, hln with
        | u :: v :: w, _ => rfl
      have kc : 14 * (ndS (.text ns)).words.length ≤ costs (toldS (.text ns)) := by simp only [toldS,costs,costN]; omega
      have r1 : inR .i64 ((a : Int) + 1) := inR_i64 (by omega) (by omega)
      generalize ndS (.text ns) = x at *
      rw [kx] at hin
      have i1 := hin x.line (by simp)
      have i2 := hin x.space (by simp)
      have i3 : ∀ n ∈ x.words, inN n := fun n hn => hin n (by simp [hn])
      have d1 := (dg_len i1).1
      have d2 := (dg_len i2).1
      (refine Runs.of_step Orc.nothing 300 ?_; simp -implicitDefEqProofs only [BB,seval,← decide_not,okind,vpre,vpure,intBin,intPre,strBin,strPre,popTo,argSlots,fldV,fldAV,subCells,idxVV,idxAAV,idxSV,sliceV,sliceSV,boundV,szIs,storeOp,storeS,setRowV,eff,extV,buildV,splice,eqSV,fitsL,eqCells,eqCell,minmaxV,capV,binBV,nilCheckV,bytesV,V.cells,V.stays,Orc.nothing,h0,h1,h2,h3,h9,hlt,hix,loadV_rp_node,encN,Nd.cells,encI_staysA])
      refine effR_new fun id6 σ6 s6 r6 f6 => ?_
      simp -implicitDefEqProofs only [BB,seval,← decide_not,okind,vpre,vpure,intBin,intPre,strBin,strPre,popTo,argSlots,fldV,fldAV,subCells,idxVV,idxAAV,idxSV,sliceV,sliceSV,boundV,szIs,storeOp,storeS,setRowV,eff,extV,buildV,splice,eqSV,fitsL,eqCells,eqCell,minmaxV,capV,binBV,nilCheckV,bytesV,V.cells,V.stays,r6,h0,h1,h2,h3,h9,k1,encI_staysA]
      refine ⟨by omega, ?_⟩
      refine Go.pcallG rfl rfl rfl (rdg_c x.line i1) ?_
      (refine Go.of_step Orc.nothing 300 _ _ ?_; simp -implicitDefEqProofs only [BB,seval,← decide_not,okind,vpre,vpure,intBin,intPre,strBin,strPre,popTo,argSlots,fldV,fldAV,subCells,idxVV,idxAAV,idxSV,sliceV,sliceSV,boundV,szIs,storeOp,storeS,setRowV,eff,extV,buildV,splice,eqSV,fitsL,eqCells,eqCell,minmaxV,capV,binBV,nilCheckV,bytesV,V.cells,V.stays,Orc.nothing,r6,h0,h1,h2,h3,h9,k1,encI_staysA])
      refine ⟨by simp only [List.length_append,List.length_cons,List.length_nil]; omega, by simp only [List.length_append,List.length_cons,List.length_nil]; omega, ?_⟩
      refine Go.pcallG rfl rfl rfl (rdg_c x.space i2) ?_
      (refine Go.of_step Orc.nothing 300 _ _ ?_; simp -implicitDefEqProofs only [BB,seval,← decide_not,okind,vpre,vpure,intBin,intPre,strBin,strPre,popTo,argSlots,fldV,fldAV,subCells,idxVV,idxAAV,idxSV,sliceV,sliceSV,boundV,szIs,storeOp,storeS,setRowV,eff,extV,buildV,splice,eqSV,fitsL,eqCells,eqCell,minmaxV,capV,binBV,nilCheckV,bytesV,V.cells,V.stays,Orc.nothing,r6,h0,h1,h2,h3,h9,k1,encI_staysA])
      refine ⟨by simp only [List.length_append,List.length_cons,List.length_nil]; omega, ?_⟩
      refine Runs.loop (fun z st => ∃ i : Nat, i ≤ x.words.length ∧ z = x.words.length - i ∧ SubStore σ st.σ ∧ st.σ id6 = some ⟨58, 20, [.agg (textCells x)]⟩ ∧ st.s 0 = encNs l ∧ st.s 1 = vI a ∧ st.s 2 = vI q ∧ st.s 3 = .str e ∧ st.s 10 = .ptr id6 0 0 ∧ st.s 9 = .str (D ++ [40] ++ dg x.line ++ [32] ++ dg x.space ++ wordsX (x.words.take i)) ∧ st.s 11 = vI i) x.words.length ?_ ?_
      · exact ⟨0, by omega, by omega, hsub.trans (s6.updK f6), upd_same, h0, h1, h2, h3, rfl, congrArg V.str (by simp [wordsX]), rfl⟩
      rintro z ⟨S2, σ2⟩ ⟨i, hi, rfl, hsub2, r2, h0, h1, h2, h3, h10, h9, h11⟩
      simp only at h0 h1 h2 h3 h9 h10 h11 hsub2 r2
      refine Runs.mix 12 ?_
      have hwl := wordsX_len (ws := x.words.take i) (fun n hn => i3 n (List.mem_of_mem_take hn))
      have htl : (x.words.take i).length ≤ x.words.length := by rw [List.length_take]; omega
      by_cases hwi : i < x.words.length
      · have hlt2 : ((i : Int) < (x.words.length : Int)) = True := eq_true (by omega)
        have hixw := fun σ => idxAV_encI (σ := σ) hwi
        have i4 := i3 _ (List.getElem_mem hwi)
        have d3 := (dg_len i4).1
        have htk := wordsX_take x.words i hwi
        have r3 : inR .i64 ((i : Int) + 1) := inR_i64 (by omega) (by omega)
        generalize x.words[i] = v at *
        (refine Runs.of_step Orc.nothing 300 ?_; simp -implicitDefEqProofs only [BB,seval,← decide_not,okind,vpre,vpure,intBin,intPre,strBin,strPre,popTo,argSlots,fldV,fldAV,subCells,idxVV,idxAAV,idxSV,sliceV,sliceSV,boundV,szIs,storeOp,storeS,setRowV,eff,extV,buildV,splice,eqSV,fitsL,eqCells,eqCell,minmaxV,capV,binBV,nilCheckV,bytesV,V.cells,V.stays,Orc.nothing,h0,h1,h2,h3,h9,h10,h11,r2,textCells,encI_staysA,lenV_encI,hlt2,hixw])
        refine ⟨by simp only [List.length_append,List.length_cons,List.length_nil]; omega, ?_⟩
        refine Runs.pcall rfl rfl rfl (rdg_c v i4 _) ?_
        (refine Runs.of_step Orc.nothing 300 ?_; simp -implicitDefEqProofs only [BB,seval,← decide_not,okind,vpre,vpure,intBin,intPre,strBin,strPre,popTo,argSlots,fldV,fldAV,subCells,idxVV,idxAAV,idxSV,sliceV,sliceSV,boundV,szIs,storeOp,storeS,setRowV,eff,extV,buildV,splice,eqSV,fitsL,eqCells,eqCell,minmaxV,capV,binBV,nilCheckV,bytesV,V.cells,V.stays,Orc.nothing,h0,h1,h2,h3,h9,h10,h11,r3])
        refine ⟨by simp only [List.length_append,List.length_cons,List.length_nil]; omega, _, by omega, i + 1, by omega, rfl, hsub2, r2, congrArg V.str ?_, by simp⟩
        rw [htk]; simp
      · have hie : i = x.words.length := by omega
        subst hie
        have hlt2 : ((x.words.length : Int) < (x.words.length : Int)) = False := by simp
        (refine Runs.of_step Orc.nothing 300 ?_; simp -implicitDefEqProofs only [BB,seval,← decide_not,okind,vpre,vpure,intBin,intPre,strBin,strPre,popTo,argSlots,fldV,fldAV,subCells,idxVV,idxAAV,idxSV,sliceV,sliceSV,boundV,szIs,storeOp,storeS,setRowV,eff,extV,buildV,splice,eqSV,fitsL,eqCells,eqCell,minmaxV,capV,binBV,nilCheckV,bytesV,V.cells,V.stays,Orc.nothing,h0,h1,h2,h3,h9,h10,h11,r2,textCells,encI_staysA,lenV_encI,hlt2,k2,r1])
        refine ⟨by simp only [List.length_append,List.length_cons,List.length_nil]; omega, by simp only [List.length_append,List.length_cons,List.length_nil]; omega, _, Nat.lt_succ_self _, dn ++ [.text ns], rs, a + 1, hnext, rfl, by simpa using g5, by omega, hsub2, by simp, ?_⟩
        rw [htxt, txtS, kx, joinX, joinX_flat, List.take_length]; simp
    | block s inner =>
      have hL : toldL (.block s inner :: rs) = { ndS (.block s inner) with size := 1 + ((toldL inner).length : Int) } :: (toldL inner ++ toldL rs) := by rw [toldL, toldS]; rfl
      have hat := attX_len (okL_in hoky.1.2) 12 0
      have hcin : 400 + costs (toldL inner) ≤ costs (toldS (.block s inner)) := by simp [toldS, costs, costN]
      have hmi : (toldL inner).length < m := by rw [toldL_append, toldL, List.length_append, List.length_append, toldS, List.length_cons] at hm; omega
      have htin := txtL_len inner hoky.2 [] (by simp)
      rw [hL] at hwa
      obtain ⟨g1, ⟨g2, g3⟩, g4⟩ := window_cons hwa hq
      have g5 := g4 (1 + (toldL inner).length) (by simp; omega)
      have hlw : ((l.drop a).take (q - a)).length = ((toldL inner ++ toldL rs).length + 1) := by rw [hwa]; simp
      simp only [List.length_take,List.length_drop,List.length_append] at hlw
      have g6 : (l.drop (a + 1)).take (a + (1 + (toldL inner).length) - (a + 1)) = toldL inner := by
        have := congrArg (List.take (toldL inner).length) (g4 1 (by simp))
        rw [List.take_take] at this
        rw [show a + (1 + (toldL inner).length) - (a + 1) = min (toldL inner).length (q - (a + 1)) by omega, this]
        simp
      have hix := fun σ => idxAV_encNs (σ := σ) (l := l) g2
      rw [g3] at hix
      have hlt : ((a : Int) < (q : Int)) = True := eq_true (by omega)
      have t4 : styL s = ({ ndS (.block s inner) with size := 1 + ((toldL inner).length : Int) } : Nd).st := rfl
      have k2 : ({ ndS (.block s inner) with size := 1 + ((toldL inner).length : Int) } : Nd).size = ((1 + (toldL inner).length : Nat) : Int) := by simp
      have k1 : ({ ndS (.block s inner) with size := 1 + ((toldL inner).length : Int) } : Nd).kind = 1 := rfl
      have hsty := rstyle_c s hoky.1.1 (okL_in hoky.1.2)
      rw [styL_cells hoky.1.1, t4] at hsty
      have hrec := ih inner hmi hoky.2 [] l (a + 1) (a + (1 + (toldL inner).length)) (by simp) (by omega) hbig (by omega) g6 (by omega)
      simp only [show ((a + 1 : Nat) : Int) = (a : Int) + 1 by omega] at hrec
      clear t4
      generalize ({ ndS (.block s inner) with size := 1 + ((toldL inner).length : Int) } : Nd) = x at *
      have e1 : ((a : Int) + ((1 + (toldL inner).length : Nat) : Int)) = ((a + (1 + (toldL inner).length) : Nat) : Int) := by omega
      have r1 : inR .i64 ((a + (1 + (toldL inner).length) : Nat) : Int) := inR_i64 (by omega) (by omega)
      have r2 : inR .i64 ((a : Int) + 1) := inR_i64 (by omega) (by omega)
      (refine Runs.of_step Orc.nothing 300 ?_; simp -implicitDefEqProofs only [BB,seval,← decide_not,okind,vpre,vpure,intBin,intPre,strBin,strPre,popTo,argSlots,fldV,fldAV,subCells,idxVV,idxAAV,idxSV,sliceV,sliceSV,boundV,szIs,storeOp,storeS,setRowV,eff,extV,buildV,splice,eqSV,fitsL,eqCells,eqCell,minmaxV,capV,binBV,nilCheckV,bytesV,V.cells,V.stays,Orc.nothing,h0,h1,h2,h3,h9,hlt,hix,loadV_rp_node,encN,Nd.cells,encI_staysA])
      refine effR_new fun id6 σ6 s6 r6 f6 => ?_
      simp -implicitDefEqProofs only [BB,seval,← decide_not,okind,vpre,vpure,intBin,intPre,strBin,strPre,popTo,argSlots,fldV,fldAV,subCells,idxVV,idxAAV,idxSV,sliceV,sliceSV,boundV,szIs,storeOp,storeS,setRowV,eff,extV,buildV,splice,eqSV,fitsL,eqCells,eqCell,minmaxV,capV,binBV,nilCheckV,bytesV,V.cells,V.stays,r6,h0,h1,h2,h3,h9,k1,encI_staysA]
      refine ⟨by omega, ?_⟩
      refine Go.pcallG rfl rfl rfl hsty ?_
      (refine Go.of_step Orc.nothing 300 _ _ ?_; simp -implicitDefEqProofs only [BB,seval,← decide_not,okind,vpre,vpure,intBin,intPre,strBin,strPre,popTo,argSlots,fldV,fldAV,subCells,idxVV,idxAAV,idxSV,sliceV,sliceSV,boundV,szIs,storeOp,storeS,setRowV,eff,extV,buildV,splice,eqSV,fitsL,eqCells,eqCell,minmaxV,capV,binBV,nilCheckV,bytesV,V.cells,V.stays,Orc.nothing,r6,h0,h1,h2,h3,h9,k1,k2,e1,r1,r2,encI_staysA])
      refine ⟨by simp only [List.length_append,List.length_cons,List.length_nil]; omega, ?_⟩
      refine Go.pcallG rfl rfl rfl hrec ?_
      (refine Go.of_step Orc.nothing 300 _ _ ?_; simp -implicitDefEqProofs only [BB,seval,← decide_not,okind,vpre,vpure,intBin,intPre,strBin,strPre,popTo,argSlots,fldV,fldAV,subCells,idxVV,idxAAV,idxSV,sliceV,sliceSV,boundV,szIs,storeOp,storeS,setRowV,eff,extV,buildV,splice,eqSV,fitsL,eqCells,eqCell,minmaxV,capV,binBV,nilCheckV,bytesV,V.cells,V.stays,Orc.nothing,r6,h0,h1,h2,h3,h9,k1,k2,e1,r1,r2,encI_staysA])
      refine ⟨by simp only [List.length_append,List.length_cons,List.length_nil]; omega, by simp only [List.length_append,List.length_cons,List.length_nil]; omega, by simp only [List.length_append,List.length_cons,List.length_nil]; omega, _, Nat.lt_succ_self _, dn ++ [.block s inner], rs, a + (1 + (toldL inner).length), hnext, rfl, ?_, by omega, hsub.trans (s6.updK f6), by simp, ?_⟩
      · rw [g5, Nat.add_comm]; simp
      · rw [htxt, txtS]; simp
end Go.Vc
namespace Go.Vc
open Go.Proofs
theorem costs_le {n w : Nat} : ∀ (l : List Nd), (∀ x ∈ l, x.words.length ≤ w) → costs l ≤ l.length * (400 + 14 * w)
  | [], _ => by simp [costs]
  | x :: l, h => by
    have h1 := costs_le (n := n) l (fun y hy => h y (by simp [hy]))
    have h2 := h x (by simp)
    have h3 : (l.length + 1) * (400 + 14 * w) = l.length * (400 + 14 * w) + (400 + 14 * w) := by rw [Nat.add_mul, Nat.one_mul]
    simp only [costs,costN,List.length_cons]
    rw [h3]; omega
end Go.Vc
namespace Go.Vc
def sumW : List Nd → Nat
  | [] => 0
  | x :: l => x.words.length + sumW l
theorem sumW_app (a b : List Nd) : sumW (a ++ b) = sumW a + sumW b := by
  induction a with
  | nil => simp [sumW]
  | cons x a ih => simp [sumW, ih]; omega
theorem text_words2 {l : List Tk} (h : signB 40 l = true) : ((textR l).1.drop 2).length + (textR l).2.1.length ≤ l.length := by
  unfold textR
  simp only
  obtain ⟨e, hl⟩ := takeR_yes h
  rw [e]
  simp only
  have h1 := count_len 1 MX l.tail false
  generalize countR 1 MX l.tail false = c1 at *
  have h2 := count_len 0 MX c1.2.1 c1.2.2
  generalize countR 0 MX c1.2.1 c1.2.2 = c2 at *
  have h3 := count_len 1 MX c2.2.1 c2.2.2
  generalize countR 1 MX c2.2.1 c2.2.2 = c3 at *
  have h4 := nums_len c3.2.1
  have h5 := takeR_len 41 (numsR c3.2.1).2 c3.2.2
  simp only [List.cons_append,List.nil_append,List.drop_succ_cons,List.drop_zero,List.length_cons]
  omega
theorem told_sum : ∀ (f : Nat) (l : List Tk) (w : Bool), sumW (toldL (nodesT f l w).1) + (nodesT f l w).2.1.length ≤ l.length
  | f, l, true => by simp [nodesT, toldL, sumW]
  | 0, l, false => by simp [nodesT, nodesR, toldL, sumW]
  | f + 1, l, false => by
    rw [nodesT_false]
    rcases sign_cases l with q | ⟨q1, q2⟩ | ⟨q1, q2, q3⟩ | ⟨q1, q2, q3, q4⟩ | ⟨q1, q2, q3, q4⟩
    · rw [nodesR_block q]
      have h0 := (takeR_yes q).2
      have h1 := (attrsT_len (fun _ => true) plainS l.tail false).2
      generalize attrsT (fun _ => true) plainS l.tail false = a at *
      have i1 := told_sum f a.2.1 a.2.2
      generalize nodesT f a.2.1 a.2.2 = n at *
      have h3 := takeR_len 93 n.2.1 n.2.2
      generalize takeR 93 n.2.1 n.2.2 = c at *
      have i2 := told_sum f c.1 c.2
      rw [toldL, toldS, List.cons_append, sumW, sumW_app]
      simp only [ndS,List.length_nil]
      omega
    · rw [nodesR_text q1 q2]
      have h1 := text_words2 q2
      generalize textR l = a at *
      have i2 := told_sum f a.2.1 a.2.2
      rw [toldL, toldS, List.cons_append, List.nil_append, sumW]
      simp only [ndS]
      omega
    · rw [nodesR_box q1 q2 q3]
      have h0 := (takeR_yes q3).2
      have h1 := boxR_len 125 l.tail false
      generalize boxR 125 l.tail false = a at *
      have i2 := told_sum f a.2.2.1 a.2.2.2
      rw [toldL, toldS, List.cons_append, List.nil_append, sumW]
      simp only [ndS,List.length_nil]
      omega
    · rw [nodesR_float q1 q2 q3 q4]
      have h0 := floatR_len q4
      have hf : ∃ w h d, (floatR l false).1 = .float w h d := ⟨_, _, _, rfl⟩
      obtain ⟨w, h, d, hf⟩ := hf
      rw [hf]
      generalize floatR l false = a at *
      have i2 := told_sum f a.2.1 a.2.2
      rw [toldL, toldS, List.cons_append, List.nil_append, sumW]
      simp only [ndS,List.length_nil]
      omega
    · rw [nodesR_none q1 q2 q3 q4]
      simp [toldL, sumW]
theorem readR_sum {s : List UInt8} {n : Nat} (hs : s.length ≤ n) : sumW (readR s).1 ≤ n := by
  by_cases h : (readR s).2.2 = 0
  · obtain ⟨_, l, hl, hn, ht⟩ := readR_ok h
    have hll := ofI_len hl
    have hx := told_sum l.length l false
    rw [nodesT_false] at hx
    rw [ht]
    omega
  · rw [(readR_bad h).1]
    simp [sumW]
mutual
theorem txtS_len2 : ∀ x : Shp, okS x → (txtS x).length + 1 ≤ 180 * (toldS x).length + 14 * sumW (toldS x)
  | .box w h, hx => by
    have h1 := (dg_len (inN_of hx.1)).1
    have h2 := (dg_len (inN_of hx.2)).1
    simp [txtS, joinX, toldS, sumW, ndS]; omega
  | .float w h d, hx => by
    have h1 := (dg_len (inN_of hx.1)).1
    have h2 := (dg_len (inN_of hx.2.1)).1
    simp [txtS, joinX, toldS, sumW, ndS]; omega
  | .text ns, hx => by
    obtain ⟨h1, h2⟩ := okT_in hx
    have h3 := joinX_len h1
    simp [txtS, toldS, sumW, ndS]; omega
  | .block s inner, hx => by
    have h1 := txtL_len2 inner hx.2 [] (by simp)
    have h2 := attX_len (okL_in hx.1.2) 12 0
    simp [txtS, toldS, sumW, ndS]; omega
theorem txtL_len2 : ∀ xs : List Shp, okSs xs → ∀ e : List UInt8, e.length ≤ 1 → (txtL e xs).length ≤ 180 * (toldL xs).length + 14 * sumW (toldL xs)
  | [], _, _, _ => by simp [txtL]
  | x :: l, hx, e, he => by
    have h1 := txtS_len2 x hx.1
    have h2 := txtL_len2 l hx.2 e he
    simp only [txtL,toldL,sumW_app,List.length_append]; omega
end
end Go.Vc
namespace Go.Vc
open Go.Proofs
theorem script_small {s : List UInt8} (hs : s.length ≤ 3000) {xs : List Shp} (hx : toldL xs = (readR s).1) (hok : okSs xs) : Fine (toldL xs) ∧ costs (toldL xs) ≤ 800000000 ∧ (txtL [10] xs).length ≤ 1000000 := by
  obtain ⟨h1, h2⟩ := readR_fine hs
  have h3 := readR_sum hs
  rw [← hx] at h1 h2 h3
  have h4 := costs_le (n := 0) _ h2
  have h5 : (toldL xs).length * (400 + 14 * 3000) ≤ 3000 * (400 + 14 * 3000) := Nat.mul_le_mul_right _ h1
  have h6 := txtL_len2 xs hok [10] (by simp)
  exact ⟨⟨by omega, fun x hm => by have := h2 x hm; omega⟩, by omega, by omega⟩
end Go.Vc
namespace Go.Vc
open Go.Proofs
theorem rofBad_c (s : List UInt8) (hs : s.length ≤ 3000) (he : (readR s).2.2 ≠ 0) : PFun Tryz.prog 6 [.str s] (.tup [.str [], vI (readR s).2.1, vI (readR s).2.2]) := fun σ => by
  refine Contract.of_runs Tryz.func6 e6 k6 (by simp [c6]) ?_
  refine Runs.mix 7 ?_
  (refine Runs.of_step Orc.nothing 300 ?_; simp -implicitDefEqProofs only [BB,seval,← decide_not,okind,vpre,vpure,intBin,intPre,strBin,strPre,popTo,argSlots,fldV,fldAV,subCells,idxVV,idxAAV,idxSV,sliceV,sliceSV,boundV,szIs,storeOp,storeS,setRowV,eff,extV,buildV,splice,eqSV,fitsL,eqCells,eqCell,minmaxV,capV,binBV,nilCheckV,bytesV,V.cells,V.stays,Orc.nothing,c6])
  refine Runs.pcall rfl rfl rfl (readG_c s (by omega) _) ?_
  have q : ((readR s).2.2 ≠ 0) = True := eq_true he
  (refine Runs.of_step Orc.nothing 300 ?_; simp -implicitDefEqProofs only [BB,seval,← decide_not,okind,vpre,vpure,intBin,intPre,strBin,strPre,popTo,argSlots,fldV,fldAV,subCells,idxVV,idxAAV,idxSV,sliceV,sliceSV,boundV,szIs,storeOp,storeS,setRowV,eff,extV,buildV,splice,eqSV,fitsL,eqCells,eqCell,minmaxV,capV,binBV,nilCheckV,bytesV,V.cells,V.stays,Orc.nothing,readV,q])
  exact RetV.same rfl
theorem rofOk_c (s : List UInt8) (hs : s.length ≤ 3000) (xs : List Shp) (he : readR s = (toldL xs, 0, 0)) (hok : okSs xs) (hF : Fine (toldL xs)) (hcs : costs (toldL xs) ≤ 800000000) : PFun Tryz.prog 6 [.str s] (.tup [.str (txtL [10] xs), vI 0, vI 0]) := fun σ => by
  have hlen := hF.1
  refine Contract.of_runs Tryz.func6 e6 k6 (by simp [c6]) ?_
  refine Runs.mix 7 ?_
  (refine Runs.of_step Orc.nothing 300 ?_; simp -implicitDefEqProofs only [BB,seval,← decide_not,okind,vpre,vpure,intBin,intPre,strBin,strPre,popTo,argSlots,fldV,fldAV,subCells,idxVV,idxAAV,idxSV,sliceV,sliceSV,boundV,szIs,storeOp,storeS,setRowV,eff,extV,buildV,splice,eqSV,fitsL,eqCells,eqCell,minmaxV,capV,binBV,nilCheckV,bytesV,V.cells,V.stays,Orc.nothing,c6])
  refine Runs.pcall rfl rfl rfl (readG_c s (by omega) _) ?_
  rw [he]
  (refine Runs.of_step Orc.nothing 300 ?_; simp -implicitDefEqProofs only [BB,seval,← decide_not,okind,vpre,vpure,intBin,intPre,strBin,strPre,popTo,argSlots,fldV,fldAV,subCells,idxVV,idxAAV,idxSV,sliceV,sliceSV,boundV,szIs,storeOp,storeS,setRowV,eff,extV,buildV,splice,eqSV,fitsL,eqCells,eqCell,minmaxV,capV,binBV,nilCheckV,bytesV,V.cells,V.stays,Orc.nothing,readV,lenV_encNs])
  refine Runs.pcall rfl rfl rfl (rtext_c _ xs (Nat.lt_succ_self _) hok [10] (toldL xs) 0 (toldL xs).length (by simp) hcs (by omega) (Nat.le_refl _) (by simp) (by omega) _) ?_
  (refine Runs.of_step Orc.nothing 300 ?_; simp -implicitDefEqProofs only [BB,seval,← decide_not,okind,vpre,vpure,intBin,intPre,strBin,strPre,popTo,argSlots,fldV,fldAV,subCells,idxVV,idxAAV,idxSV,sliceV,sliceSV,boundV,szIs,storeOp,storeS,setRowV,eff,extV,buildV,splice,eqSV,fitsL,eqCells,eqCell,minmaxV,capV,binBV,nilCheckV,bytesV,V.cells,V.stays,Orc.nothing])
  exact RetV.same rfl
theorem canonOf_c (s : List UInt8) : PFun Tryz.prog 3 [.str s] (.bool true) := fun σ => by
  refine Contract.of_runs Tryz.func3 e3 k3 (by simp [c3]) ?_
  refine Runs.mix 9 ?_
  by_cases hs : s.length > 3000
  · have q1 : ((s.length : Int) > 3000) = True := by simp; omega
    (refine Runs.of_step Orc.nothing 300 ?_; simp -implicitDefEqProofs only [BB,seval,← decide_not,okind,vpre,vpure,intBin,intPre,strBin,strPre,popTo,argSlots,fldV,fldAV,subCells,idxVV,idxAAV,idxSV,sliceV,sliceSV,boundV,szIs,storeOp,storeS,setRowV,eff,extV,buildV,splice,eqSV,fitsL,eqCells,eqCell,minmaxV,capV,binBV,nilCheckV,bytesV,V.cells,V.stays,Orc.nothing,c3,q1])
    refine Runs.pcall rfl rfl rfl (awake7_c _) ?_
    (refine Runs.of_step Orc.nothing 300 ?_; simp -implicitDefEqProofs only [BB,seval,← decide_not,okind,vpre,vpure,intBin,intPre,strBin,strPre,popTo,argSlots,fldV,fldAV,subCells,idxVV,idxAAV,idxSV,sliceV,sliceSV,boundV,szIs,storeOp,storeS,setRowV,eff,extV,buildV,splice,eqSV,fitsL,eqCells,eqCell,minmaxV,capV,binBV,nilCheckV,bytesV,V.cells,V.stays,Orc.nothing])
    exact RetV.same rfl
  · have q1 : ((s.length : Int) > 3000) = False := by simp; omega
    have hs' : s.length ≤ 3000 := by omega
    (refine Runs.of_step Orc.nothing 300 ?_; simp -implicitDefEqProofs only [BB,seval,← decide_not,okind,vpre,vpure,intBin,intPre,strBin,strPre,popTo,argSlots,fldV,fldAV,subCells,idxVV,idxAAV,idxSV,sliceV,sliceSV,boundV,szIs,storeOp,storeS,setRowV,eff,extV,buildV,splice,eqSV,fitsL,eqCells,eqCell,minmaxV,capV,binBV,nilCheckV,bytesV,V.cells,V.stays,Orc.nothing,c3,q1])
    by_cases he : (readR s).2.2 = 0
    · obtain ⟨xs, hx, hok⟩ := shapes_of (readR_isB he)
      have hr : readR s = (toldL xs, 0, 0) := by
        rw [hx]
        have := (readR_ok he).1
        exact Prod.ext rfl (Prod.ext this he)
      obtain ⟨fx, cx, tx⟩ := script_small hs' hx hok
      refine Runs.pcall rfl rfl rfl (canonOk_c s (by omega) xs hr hok fx cx _) ?_
      (refine Runs.of_step Orc.nothing 300 ?_; simp -implicitDefEqProofs only [BB,seval,← decide_not,okind,vpre,vpure,intBin,intPre,strBin,strPre,popTo,argSlots,fldV,fldAV,subCells,idxVV,idxAAV,idxSV,sliceV,sliceSV,boundV,szIs,storeOp,storeS,setRowV,eff,extV,buildV,splice,eqSV,fitsL,eqCells,eqCell,minmaxV,capV,binBV,nilCheckV,bytesV,V.cells,V.stays,Orc.nothing])
      refine Runs.pcall rfl rfl rfl (rofOk_c s hs' xs hr hok fx cx _) ?_
      (refine Runs.of_step Orc.nothing 300 ?_; simp -implicitDefEqProofs only [BB,seval,← decide_not,okind,vpre,vpure,intBin,intPre,strBin,strPre,popTo,argSlots,fldV,fldAV,subCells,idxVV,idxAAV,idxSV,sliceV,sliceSV,boundV,szIs,storeOp,storeS,setRowV,eff,extV,buildV,splice,eqSV,fitsL,eqCells,eqCell,minmaxV,capV,binBV,nilCheckV,bytesV,V.cells,V.stays,Orc.nothing])
      refine Runs.pcall rfl rfl rfl (awake7_c _) ?_
      (refine Runs.of_step Orc.nothing 300 ?_; simp -implicitDefEqProofs only [BB,seval,← decide_not,okind,vpre,vpure,intBin,intPre,strBin,strPre,popTo,argSlots,fldV,fldAV,subCells,idxVV,idxAAV,idxSV,sliceV,sliceSV,boundV,szIs,storeOp,storeS,setRowV,eff,extV,buildV,splice,eqSV,fitsL,eqCells,eqCell,minmaxV,capV,binBV,nilCheckV,bytesV,V.cells,V.stays,Orc.nothing])
      exact RetV.same rfl
    · refine Runs.pcall rfl rfl rfl (canonBad_c s (by omega) he _) ?_
      (refine Runs.of_step Orc.nothing 300 ?_; simp -implicitDefEqProofs only [BB,seval,← decide_not,okind,vpre,vpure,intBin,intPre,strBin,strPre,popTo,argSlots,fldV,fldAV,subCells,idxVV,idxAAV,idxSV,sliceV,sliceSV,boundV,szIs,storeOp,storeS,setRowV,eff,extV,buildV,splice,eqSV,fitsL,eqCells,eqCell,minmaxV,capV,binBV,nilCheckV,bytesV,V.cells,V.stays,Orc.nothing])
      refine Runs.pcall rfl rfl rfl (rofBad_c s hs' he _) ?_
      (refine Runs.of_step Orc.nothing 300 ?_; simp -implicitDefEqProofs only [BB,seval,← decide_not,okind,vpre,vpure,intBin,intPre,strBin,strPre,popTo,argSlots,fldV,fldAV,subCells,idxVV,idxAAV,idxSV,sliceV,sliceSV,boundV,szIs,storeOp,storeS,setRowV,eff,extV,buildV,splice,eqSV,fitsL,eqCells,eqCell,minmaxV,capV,binBV,nilCheckV,bytesV,V.cells,V.stays,Orc.nothing])
      refine Runs.pcall rfl rfl rfl (awake7_c _) ?_
      (refine Runs.of_step Orc.nothing 300 ?_; simp -implicitDefEqProofs only [BB,seval,← decide_not,okind,vpre,vpure,intBin,intPre,strBin,strPre,popTo,argSlots,fldV,fldAV,subCells,idxVV,idxAAV,idxSV,sliceV,sliceSV,boundV,szIs,storeOp,storeS,setRowV,eff,extV,buildV,splice,eqSV,fitsL,eqCells,eqCell,minmaxV,capV,binBV,nilCheckV,bytesV,V.cells,V.stays,Orc.nothing])
      exact RetV.same rfl
end Go.Vc
