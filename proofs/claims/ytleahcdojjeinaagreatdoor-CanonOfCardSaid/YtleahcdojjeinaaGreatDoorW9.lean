/- Part 9 of the library of this proof. -/
import Derived.Test.YtleahcdojjeinaaGreatDoorW8
import Derived.Shelf.Small.Strs
import Derived.Shelf.Strconv.Atoi
import Derived.Shelf.Strconv.Itoa3
import Derived.Shelf.Strconv.ErrVarAll
import Derived.Lib.AppendIntMem
set_option linter.all false
namespace Go.Vc
open Go.Proofs Go.RowKit
theorem Sat.below {w0 w w' : World} {ow0 : Nat → Prop} {μ : Mu} {σ : Store} (h : Sat w0 ow0 μ σ w) (hb : Below w.heap.size w w') : Sat w0 ow0 μ σ w' := by
  have hk : Keeps (Owned μ σ) (Owned μ σ) w w' := fun b hlt hn => ⟨hn, hb.block b hlt⟩
  refine ⟨Nat.le_trans h.size hb.size, hb.os.trans h.os, hb.tape.trans h.tape, hb.output.trans h.output, fun b hlt hn => (hb.block b (Nat.lt_of_lt_of_le hlt h.size)).trans (h.same b hlt hn), h.fin, h.inj,
    fun id ob ho => ?_, h.fresh, h.glob⟩
  exact (h.obj id ob ho).mono (MuLe.refl μ) hk hb.size fun b sz cap hp => hb.block b (Owned.lt h ⟨id, ob, sz, cap, ho, hp⟩)
theorem PFun.lib {P : Program} {f : FuncId} {args : List V} {v : V} {vals : List Value} {x : Value} (hcl : callable P f = true) (hargs : ∀ μ ow w l, RepAll μ ow w args l → l = vals)
    (h : ∀ w, Calls P f vals.toArray w fun e w' => e = .returned x ∧ Below w.heap.size w w') (hx : ∀ μ ow w, Rep μ ow w v x) : PFun P f args v := by
  intro σ
  refine ⟨hcl, fun μ w l hs hr => ?_⟩
  obtain rfl := hargs _ _ _ _ hr
  refine (h w).mono ?_
  rintro e w' ⟨rfl, hb⟩
  exact ⟨v, σ, μ, x, rfl, ⟨rfl, rfl⟩, MuLe.refl μ, hs.below hb, hx _ _ _⟩
theorem indexByte_c (s : List UInt8) : PFun Tryz.prog 48 [.str s, .int .u8 10] (vI (Lib.indexByte s 10)) := by
  refine PFun.lib (vals := [.string ⟨s.toArray⟩, .int .u8 10]) (x := .int .i64 (Lib.indexByte s 10)) (by kernel_rfl) (fun μ ow w l h => ?_) (fun w => ?_) (fun _ _ _ => by simp [Rep])
  · simpa [RepAll, Rep] using h
  · refine (Any.strings_IndexByte Tryz.lays137 ⟨s.toArray⟩ 10 w).mono ?_
    rintro e w' ⟨rfl, rfl⟩
    exact ⟨rfl, Below.refl _ _⟩
theorem atoi_c (s : List UInt8) (n : Int) (hl : s.length ≤ 18) (h : Lib.atoi s = some n) : PFun Tryz.prog 66 [.str s] (.tup [vI n, .niliface]) := by
  refine PFun.lib (vals := [.string ⟨s.toArray⟩]) (x := .tuple #[.int .i64 n, .nilIface]) (by kernel_rfl) (fun μ ow w l h => ?_) (fun w => ?_) (fun _ _ _ => by simp only [Rep]; exact ⟨_, rfl, by simp [RepAll, Rep]⟩)
  · simpa [RepAll, Rep] using h
  · refine (Any.strconv_Atoi Tryz.lays172 ⟨s.toArray⟩ n (by simpa [ByteArray.size] using hl) h w).mono ?_
    rintro e w' ⟨rfl, t, rfl⟩
    exact ⟨rfl, ⟨rfl, rfl, rfl, by rw [Lib.bytesWorld_size]; omega, fun k hk => Lib.bytesWorld_at_old w _ t k hk⟩⟩
end Go.Vc
namespace Go.Vc
open Go.Proofs Go.RowKit Go.Shelf
set_option maxHeartbeats 1000000 in
set_option maxRecDepth 100000 in
theorem copyCheck : CopyCheck Tryz.prog 37 50 where
  callable := by kernel_rfl
  fresh := by
    intro b T w n hn h0 hsh hlies hfz
    obtain ⟨j, hj, hjs⟩ := Option.map_eq_some_iff.1 (show (Tryz.prog.info? 50).map (·.size) = some 2 by kernel_rfl)
    go_enter Tryz.func37, Tryz.ntmps37
    go_wp2
    rw [Lib.run_to_unsafe w ⟨b, 0, none⟩ Tryz.underlying47 Tryz.underlying119 hj (by rw [hjs]; decide) hsh hn]
    simp only [Result.andThen]
    rw [Oper.upon_value]
    go_wp2
    rw [run_callFunc_extern Tryz.func59 (by kernel_rfl) (by kernel_rfl) (by kernel_rfl) (e := Extern.AbiNoEscape.same) (by kernel_rfl)]
    rw [Lib.run_noEscape]
    simp only [Result.andThen]
    rw [Oper.upon_value]
    go_wp2
    rw [Lib.run_from_unsafe w ⟨b, 0, none⟩ Tryz.underlying119 Tryz.underlying47 hj hsh hlies]
    simp only [Result.andThen]
    rw [Oper.upon_value]
    go_wp2
    go_end0
    exact ⟨rfl, rfl⟩
  used := by
    intro b w h0
    obtain ⟨j, hj, _⟩ := Option.map_eq_some_iff.1 (show (Tryz.prog.info? 50).map (·.size) = some 2 by kernel_rfl)
    go_enter Tryz.func37, Tryz.ntmps37
    go_wp2
    rw [Lib.run_neq_ptr_same w _ Tryz.underlying47 hj]
    go_wp2
    go_end0
    exact ⟨rfl, rfl⟩
theorem PFun.libG {P : Program} {f : FuncId} {args : List V} {v : V} {vals : List Value} (hcl : callable P f = true) (hargs : ∀ μ ow w l, RepAll μ ow w args l → l = vals)
    (h : ∀ w, Orig w → Calls P f vals.toArray w fun e w' => ∃ x, e = .returned x ∧ (∀ μ ow, Rep μ ow w' v x) ∧ Below w.heap.size w w') : PFun P f args v := by
  intro σ
  refine ⟨hcl, fun μ w l hs hr => ?_⟩
  obtain rfl := hargs _ _ _ _ hr
  obtain ⟨b, ho, _, hb⟩ := hs.globHere
  refine (h w (Orig.keep (fun i hi => (hb i hi).2) ho)).mono ?_
  rintro e w' ⟨x, rfl, hx, hb⟩
  exact ⟨v, σ, μ, x, rfl, ⟨rfl, rfl⟩, MuLe.refl μ, hs.below hb, hx _ _⟩
theorem itoaN_c (n : Int) (h0 : -9223372036854775808 ≤ n) (h1 : n ≤ 9223372036854775807) : PFun Tryz.prog 58 [vI n] (.str (Lib.itoa n)) := by
  refine PFun.libG (vals := [.int .i64 n]) (by kernel_rfl) (fun μ ow w l h => ?_) fun w hO => ?_
  · simpa [RepAll, Rep] using h
  · refine (Any.strconv_Itoa Tryz.laysM171 n h0 h1 w hO.1).mono ?_
    rintro e w' ⟨rfl, k, os, rfl⟩
    exact ⟨_, rfl, fun _ _ => by simp [Rep], Lib.below_grow _ w (Nat.le_refl _) k os⟩
def encB (l : List UInt8) : List V := l.map fun b => .int .u8 b.toNat
structure BT (T : TypeId) : Prop where
  lies : rowAt Tryz.prog (sameLayout Tryz.prog Tryz.prog.depth · 50) Tryz.prog.depth T 1 0 1 = true
  cells : Tryz.prog.cellsOf T = 2
theorem IsB.step {T u8 : TypeId} {K σ : Store} {id : Nat} {rows : List V} {l : List UInt8} {a : V} {idn : Nat} (hK : SubStore K σ) (hn : K id = none) (hid : σ id = some (bRow T a (.own idn 0 rows.length))) (ha : a = .nilp ∨ a = .ptr id 0 0) (hne : idn ≠ id) (hKn : K idn = none)
    (hrow : σ idn = some ⟨u8, 1, rows⟩) (hl : rows = l.map fun b => .int .u8 b.toNat) : IsB T u8 K σ id l := by
  subst hl
  exact ⟨hK, hn, a, _, hid, ha, .inr ⟨idn, rfl, hrow, by simp [Vc.upd, hne, hKn]⟩⟩
set_option maxRecDepth 100000 in
theorem wbyte_c {T : TypeId} (bt : BT T) {K σ : Store} {id : Nat} {l : List UInt8} (c : Int) (u : UInt8) (hc : c = u.toNat) (h : IsB T 5 K σ id l) (hl : l.length ≤ 1000000000) :
    Contract Tryz.prog 18 [.ptr id 0 0, .int .u8 c] σ fun r σ' => r = .niliface ∧ IsB T 5 K σ' id (l ++ [u]) := by
  obtain ⟨hK, hn, a, buf, hid, ha, hout⟩ := h
  subst hc
  refine Contract.of_runs Tryz.func18 e18 k18 (by simp [c18]) ?_
  refine Runs.mix 9 ?_
  (refine Runs.of_step Orc.nothing 300 ?_; simp -implicitDefEqProofs only [BB,seval,← decide_not,okind,vpre,vpure,intBin,intPre,strBin,strPre,popTo,argSlots,fldV,fldAV,subCells,idxVV,idxAAV,idxSV,sliceV,sliceSV,boundV,szIs,storeOp,storeS,setRowV,eff,extV,buildV,splice,eqSV,fitsL,eqCells,eqCell,minmaxV,capV,binBV,nilCheckV,bytesV,V.cells,V.stays,Orc.nothing,c18])
  refine Runs.call rfl rfl rfl (bcheck_c copyCheck bt.cells bt.lies hid ha) ?_
  rintro r σ1 ⟨rfl, rfl⟩
  have hK1 : SubStore (upd K id (bRow T (.ptr id 0 0) buf)) (upd σ id (bRow T (.ptr id 0 0) buf)) := hK.upd2
  have hout1 : OutV (upd K id (bRow T (.ptr id 0 0) buf)) (upd σ id (bRow T (.ptr id 0 0) buf)) 5 1 buf (encB l) := by
    rcases hout with h1 | ⟨i, h1, h2, h3⟩
    · exact .inl h1
    · have : i ≠ id := by rintro rfl; simp [Vc.upd] at h3
      exact .inr ⟨i, h1, by rw [upd_ne this]; exact h2, by rw [upd_ne this] at h3 ⊢; exact h3⟩
  generalize hσ1 : upd σ id (bRow T (.ptr id 0 0) buf) = σ1 at *
  have hid1 : σ1 id = some ⟨T, 2, [.agg [.ptr id 0 0, buf]]⟩ := hK1 _ _ upd_same
  (refine Runs.of_step Orc.nothing 300 ?_; simp -implicitDefEqProofs only [BB,seval,← decide_not,okind,vpre,vpure,intBin,intPre,strBin,strPre,popTo,argSlots,fldV,fldAV,subCells,idxVV,idxAAV,idxSV,sliceV,sliceSV,boundV,szIs,storeOp,storeS,setRowV,eff,extV,buildV,splice,eqSV,fitsL,eqCells,eqCell,minmaxV,capV,binBV,nilCheckV,bytesV,V.cells,V.stays,Orc.nothing,hid1])
  refine effR_new fun id2 σ2 s2 a2 f2 => ?_
  obtain ⟨idA, hda, hdel⟩ := hout1.dst s2
  have hb2 : (l.length + 1) * 2 ≤ 140737488355328 := by omega
  have hlb : (encB l).length = l.length := by simp [encB]
  simp -implicitDefEqProofs only [BB,seval,← decide_not,okind,vpre,vpure,intBin,intPre,strBin,strPre,popTo,argSlots,fldV,fldAV,subCells,idxVV,idxAAV,idxSV,sliceV,sliceSV,boundV,szIs,storeOp,storeS,setRowV,eff,extV,buildV,splice,eqSV,fitsL,eqCells,eqCell,minmaxV,capV,binBV,nilCheckV,bytesV,V.cells,V.stays,hda,srcOne a2,hlb,hb2]
  refine effR_put fun id3 σ3 s3 a3 f3 => ?_
  have k3 := (hdel _ (SubStore.refl _) σ2 (hK1.trans s2)).trans s3
  have hid3 : σ3 id = some ⟨T, 2, [.agg [.ptr id 0 0, buf]]⟩ := k3 _ _ upd_same
  have n3 : id ≠ id3 := ne_new (s2 _ _ hid1) f3
  have kK : SubStore K σ3 := ((SubStore.refl K).upd_new hn).trans k3
  have hKid3 : K id3 = none := ((SubStore.refl K).upd_new hn).none ((hK1.trans s2).none f3)
  simp -implicitDefEqProofs only [BB,seval,← decide_not,okind,vpre,vpure,intBin,intPre,strBin,strPre,popTo,argSlots,fldV,fldAV,subCells,idxVV,idxAAV,idxSV,sliceV,sliceSV,boundV,szIs,storeOp,storeS,setRowV,eff,extV,buildV,splice,eqSV,fitsL,eqCells,eqCell,minmaxV,capV,binBV,nilCheckV,bytesV,V.cells,V.stays,hid3,n3,n3.symm]
  refine ⟨_, _, SubStore.refl _, Wk.refl (SubStore.refl _) _, rfl, ?_⟩
  refine IsB.step (rows := encB l ++ [.int .u8 u.toNat]) (kK.updK hn) hn (a := .ptr id 0 0) (idn := id3) ?_ (.inr rfl) n3.symm hKid3 ?_ (by simp [encB])
  · rw [upd_same]; simp [bRow, hlb]
  · rw [upd_ne n3.symm]; exact a3
set_option maxRecDepth 100000 in
theorem wstr_c {T : TypeId} (bt : BT T) {K σ : Store} {id : Nat} {l : List UInt8} (s : List UInt8) (h : IsB T 5 K σ id l) (hl : l.length + s.length ≤ 1000000000) :
    Contract Tryz.prog 20 [.ptr id 0 0, .str s] σ fun r σ' => r = .tup [vI s.length, .niliface] ∧ IsB T 5 K σ' id (l ++ s) := by
  obtain ⟨hK, hn, a, buf, hid, ha, hout⟩ := h
  refine Contract.of_runs Tryz.func20 e20 k20 (by simp [c20]) ?_
  refine Runs.mix 9 ?_
  (refine Runs.of_step Orc.nothing 300 ?_; simp -implicitDefEqProofs only [BB,seval,← decide_not,okind,vpre,vpure,intBin,intPre,strBin,strPre,popTo,argSlots,fldV,fldAV,subCells,idxVV,idxAAV,idxSV,sliceV,sliceSV,boundV,szIs,storeOp,storeS,setRowV,eff,extV,buildV,splice,eqSV,fitsL,eqCells,eqCell,minmaxV,capV,binBV,nilCheckV,bytesV,V.cells,V.stays,Orc.nothing,c20])
  refine Runs.call rfl rfl rfl (bcheck_c copyCheck bt.cells bt.lies hid ha) ?_
  rintro r σ1 ⟨rfl, rfl⟩
  have hK1 : SubStore (upd K id (bRow T (.ptr id 0 0) buf)) (upd σ id (bRow T (.ptr id 0 0) buf)) := hK.upd2
  have hout1 : OutV (upd K id (bRow T (.ptr id 0 0) buf)) (upd σ id (bRow T (.ptr id 0 0) buf)) 5 1 buf (encB l) := by
    rcases hout with h1 | ⟨i, h1, h2, h3⟩
    · exact .inl h1
    · have : i ≠ id := by rintro rfl; simp [Vc.upd] at h3
      exact .inr ⟨i, h1, by rw [upd_ne this]; exact h2, by rw [upd_ne this] at h3 ⊢; exact h3⟩
  generalize hσ1 : upd σ id (bRow T (.ptr id 0 0) buf) = σ1 at *
  have hid1 : σ1 id = some ⟨T, 2, [.agg [.ptr id 0 0, buf]]⟩ := hK1 _ _ upd_same
  obtain ⟨idA, hda, hdel⟩ := hout1.dst (SubStore.refl σ1)
  have hlb : (encB l).length = l.length := by simp [encB]
  have hsb : (encB s).length = s.length := by simp [encB]
  have hsr : srcRows σ1 1 (.str s) = some (encB s) := rfl
  have hb2 : (l.length + s.length) * 2 ≤ 140737488355328 := by omega
  (refine Runs.of_step Orc.nothing 300 ?_; simp -implicitDefEqProofs only [BB,seval,← decide_not,okind,vpre,vpure,intBin,intPre,strBin,strPre,popTo,argSlots,fldV,fldAV,subCells,idxVV,idxAAV,idxSV,sliceV,sliceSV,boundV,szIs,storeOp,storeS,setRowV,eff,extV,buildV,splice,eqSV,fitsL,eqCells,eqCell,minmaxV,capV,binBV,nilCheckV,bytesV,V.cells,V.stays,Orc.nothing,hid1,hda,hsr,hlb,hsb,hb2])
  refine effR_put fun id3 σ3 s3 a3 f3 => ?_
  have k3 := (hdel _ (SubStore.refl _) σ1 hK1).trans s3
  have hid3 : σ3 id = some ⟨T, 2, [.agg [.ptr id 0 0, buf]]⟩ := k3 _ _ upd_same
  have n3 : id ≠ id3 := ne_new hid1 f3
  have kK : SubStore K σ3 := ((SubStore.refl K).upd_new hn).trans k3
  have hKid3 : K id3 = none := ((SubStore.refl K).upd_new hn).none (hK1.none f3)
  simp -implicitDefEqProofs only [BB,seval,← decide_not,okind,vpre,vpure,intBin,intPre,strBin,strPre,popTo,argSlots,fldV,fldAV,subCells,idxVV,idxAAV,idxSV,sliceV,sliceSV,boundV,szIs,storeOp,storeS,setRowV,eff,extV,buildV,splice,eqSV,fitsL,eqCells,eqCell,minmaxV,capV,binBV,nilCheckV,bytesV,V.cells,V.stays,hid3,n3,n3.symm]
  refine ⟨_, _, SubStore.refl _, Wk.refl (SubStore.refl _) _, rfl, ?_⟩
  refine IsB.step (rows := encB l ++ encB s) (kK.updK hn) hn (a := .ptr id 0 0) (idn := id3) ?_ (.inr rfl) n3.symm hKid3 ?_ (by simp [encB])
  · rw [upd_same]; simp [bRow, hlb, hsb]
  · rw [upd_ne n3.symm]; exact a3
theorem bstr_c {T : TypeId} {K σ : Store} {id : Nat} {l : List UInt8} (h : IsB T 5 K σ id l) (h0 : l = [] → ∃ a, σ id = some (bRow T a .nils)) : Contract Tryz.prog 21 [.ptr id 0 0] σ fun r σ' => r = .str l ∧ σ' = K :=
  bstring_c (ρ := Tryz.lays169_ren) Tryz.lays169 Tryz.Builder_Extra_169 (by kernel_rfl) h h0
end Go.Vc
namespace Go.Vc
open Go.Proofs
def allDig (l : List UInt8) : Prop := ∀ b ∈ l, 48 ≤ b.toNat ∧ b.toNat ≤ 57
theorem take_dig : ∀ (l : List UInt8), allDig (l.take (digLen l))
  | [] => by simp [allDig]
  | b :: l => by
    simp only [digLen]
    split
    · rename_i hb
      intro x hx
      simp only [List.take_succ_cons,List.mem_cons] at hx
      rcases hx with rfl | hx
      · exact hb
      · exact take_dig l x hx
    · simp [allDig]
theorem digs_dig (s : List UInt8) (i : Nat) : allDig (digsAt s i) := take_dig _
theorem fold_dec : ∀ (l : List UInt8) (acc : Nat), allDig l → Lib.decFrom acc l = some (l.foldl (fun n b => 10 * n + (b.toNat - 48)) acc)
  | [], acc, _ => rfl
  | b :: l, acc, h => by
    have hb := h b (by simp)
    simp only [Lib.decFrom,Lib.digitVal,if_pos hb,List.foldl_cons]
    rw [fold_dec l _ fun x hx => h x (by simp [hx]), Nat.mul_comm]
theorem atoi_dig {l : List UInt8} (h : allDig l) (hl : l ≠ []) : Lib.atoi l = some (numR l : Int) := by
  cases l with
  | nil => exact absurd rfl hl
  | cons b l =>
    have hb := h b (by simp)
    have h1 : (b == 45) = false := by
      rw [beq_eq_false_iff_ne]; rintro rfl; simp at hb
    have h2 : (b == 43) = false := by
      rw [beq_eq_false_iff_ne]; rintro rfl; simp at hb
    have := fold_dec (b :: l) 0 h
    simp only [Lib.atoi,h1,h2,Bool.false_eq_true,if_false,Lib.decNat,List.isEmpty_cons,this,Option.map_some]
    rfl
theorem fold_ge : ∀ (l : List UInt8) (acc : Nat), acc * 10 ^ l.length ≤ l.foldl (fun n b => 10 * n + (b.toNat - 48)) acc
  | [], acc => by simp
  | b :: l, acc => by
    have := fold_ge l (10 * acc + (b.toNat - 48))
    simp only [List.foldl_cons,List.length_cons]
    refine Nat.le_trans ?_ this
    rw [Nat.pow_succ, Nat.mul_comm (10 ^ l.length) 10, ← Nat.mul_assoc]
    exact Nat.mul_le_mul_right _ (by omega)
theorem numBad_long {l : List UInt8} (h : allDig l) (hl : l.length > 13) : numBad l = true := by
  cases l with
  | nil => simp at hl
  | cons b l =>
    unfold numBad
    by_cases hb : b = 48
    · subst hb; simp at hl ⊢; right; omega
    · have h1 := h b (by simp)
      have h2 : 49 ≤ b.toNat := by
        rcases Nat.lt_or_ge b.toNat 49 with h3 | h3
        · exact absurd (UInt8.toNat.inj (show b.toNat = (48 : UInt8).toNat by simp; omega)) hb
        · exact h3
      have h4 := fold_ge l (b.toNat - 48)
      have h5 : numR (b :: l) = l.foldl (fun n b => 10 * n + (b.toNat - 48)) (b.toNat - 48) := by simp [numR]
      simp only [List.length_cons] at hl
      have h6 := Nat.pow_le_pow_right (n := 10) (by decide) (show 13 ≤ l.length by omega)
      have h7 : (10 : Nat) ^ 13 = 10000000000000 := by decide
      have h8 : 10 ^ l.length ≤ (b.toNat - 48) * 10 ^ l.length := Nat.le_mul_of_pos_left _ (by omega)
      have h9 : numR (b :: l) > 1099511627776 := by omega
      simp [h9]
def numV (l : List UInt8) : V := if (l.length > 1 ∧ l.head? = some 48) ∨ l.length > 13 then .tup [vI 0, .bool false] else .tup [vI (numR l), .bool (decide (numR l ≤ 1099511627776))]
theorem number_c (l : List UInt8) (h : allDig l) (hl : l ≠ []) : PFun Tryz.prog 51 [.str l] (numV l) := fun σ => by
  refine Contract.of_runs Tryz.func51 e51 k51 (by simp [c51]) ?_
  refine Runs.mix 6 ?_
  have h0 : 0 < l.length := List.length_pos_iff.2 hl
  have hx := idx_byt h0
  have hh : (l.head? = some 48) ↔ byt l 0 = 48 := by
    cases l with
    | nil => exact absurd rfl hl
    | cons b l => simp [byt]; exact ⟨fun e => by rw [e]; rfl, fun e => UInt8.toNat.inj e⟩
  have hx0 : idxSV (.str l) (.int .i64 0) = some (.int .u8 (byt l 0)) := hx
  have hb0 : byt l 0 < 256 := byt_lt.2 h0
  unfold numV
  simp only [hh]
  by_cases h1 : l.length > 1
  · have q1 : ((l.length : Int) > 1) = True := by simp; omega
    by_cases h48 : byt l 0 = 48
    · have q2 : ((byt l 0 : Int) = 48) = True := by simp [h48]
      (refine Runs.of_step Orc.nothing 300 ?_; simp -implicitDefEqProofs only [BB,seval,effR_some,effD_some,← decide_not,okind,vpre,vpure,intBin,intPre,strBin,strPre,popTo,argSlots,fldV,fldAV,subCells,idxVV,idxAAV,sliceV,sliceSV,boundV,szIs,storeOp,storeS,setRowV,eff,extV,buildV,splice,eqSV,fitsL,eqCells,eqCell,minmaxV,capV,binBV,nilCheckV,bytesV,V.cells,V.stays,Orc.nothing,c51,q1,q2,hx0])
      exact RetV.same (by rw [if_pos (.inl ⟨h1, h48⟩)])
    · have q2 : ((byt l 0 : Int) = 48) = False := by simp; omega
      by_cases h13 : l.length > 13
      · have q3 : ((l.length : Int) > 13) = True := by simp; omega
        (refine Runs.of_step Orc.nothing 300 ?_; simp -implicitDefEqProofs only [BB,seval,effR_some,effD_some,← decide_not,okind,vpre,vpure,intBin,intPre,strBin,strPre,popTo,argSlots,fldV,fldAV,subCells,idxVV,idxAAV,sliceV,sliceSV,boundV,szIs,storeOp,storeS,setRowV,eff,extV,buildV,splice,eqSV,fitsL,eqCells,eqCell,minmaxV,capV,binBV,nilCheckV,bytesV,V.cells,V.stays,Orc.nothing,c51,q1,q2,q3,hx0])
        exact RetV.same (by rw [if_pos (.inr h13)])
      · have q3 : ((l.length : Int) > 13) = False := by simp; omega
        (refine Runs.of_step Orc.nothing 300 ?_; simp -implicitDefEqProofs only [BB,seval,effR_some,effD_some,← decide_not,okind,vpre,vpure,intBin,intPre,strBin,strPre,popTo,argSlots,fldV,fldAV,subCells,idxVV,idxAAV,sliceV,sliceSV,boundV,szIs,storeOp,storeS,setRowV,eff,extV,buildV,splice,eqSV,fitsL,eqCells,eqCell,minmaxV,capV,binBV,nilCheckV,bytesV,V.cells,V.stays,Orc.nothing,c51,q1,q2,q3,hx0])
        refine Runs.pcall rfl rfl rfl (atoi_c l _ (by omega) (atoi_dig h hl) _) ?_
        (refine Runs.of_step Orc.nothing 300 ?_; simp -implicitDefEqProofs only [BB,seval,effR_some,effD_some,← decide_not,okind,vpre,vpure,intBin,intPre,strBin,strPre,popTo,argSlots,fldV,fldAV,subCells,idxVV,idxAAV,idxSV,sliceV,sliceSV,boundV,szIs,storeOp,storeS,setRowV,eff,extV,buildV,splice,eqSV,fitsL,eqCells,eqCell,minmaxV,capV,binBV,nilCheckV,bytesV,V.cells,V.stays,Orc.nothing])
        exact RetV.same (by rw [if_neg (by omega)]; simp; omega)
  · have q1 : ((l.length : Int) > 1) = False := by simp; omega
    have q3 : ((l.length : Int) > 13) = False := by simp; omega
    (refine Runs.of_step Orc.nothing 300 ?_; simp -implicitDefEqProofs only [BB,seval,effR_some,effD_some,← decide_not,okind,vpre,vpure,intBin,intPre,strBin,strPre,popTo,argSlots,fldV,fldAV,subCells,idxVV,idxAAV,idxSV,sliceV,sliceSV,boundV,szIs,storeOp,storeS,setRowV,eff,extV,buildV,splice,eqSV,fitsL,eqCells,eqCell,minmaxV,capV,binBV,nilCheckV,bytesV,V.cells,V.stays,Orc.nothing,c51,q1,q3])
    refine Runs.pcall rfl rfl rfl (atoi_c l _ (by omega) (atoi_dig h hl) _) ?_
    (refine Runs.of_step Orc.nothing 300 ?_; simp -implicitDefEqProofs only [BB,seval,effR_some,effD_some,← decide_not,okind,vpre,vpure,intBin,intPre,strBin,strPre,popTo,argSlots,fldV,fldAV,subCells,idxVV,idxAAV,idxSV,sliceV,sliceSV,boundV,szIs,storeOp,storeS,setRowV,eff,extV,buildV,splice,eqSV,fitsL,eqCells,eqCell,minmaxV,capV,binBV,nilCheckV,bytesV,V.cells,V.stays,Orc.nothing])
    exact RetV.same (by rw [if_neg (by omega)]; simp; omega)
theorem numV_T {l : List UInt8} (h : allDig l) (hl : l ≠ []) : ∃ n, numV l = .tup [vI n, .bool (!numBad l)] ∧ (numBad l = false → n = numR l) := by
  unfold numV
  split
  · rename_i hc
    refine ⟨0, ?_, fun hb => ?_⟩
    · have : numBad l = true := by
        rcases hc with hc | hc
        · simp [numBad, hc.1, hc.2]
        · exact numBad_long h hc
      simp [this]
    · exfalso
      have : numBad l = true := by
        rcases hc with hc | hc
        · simp [numBad, hc.1, hc.2]
        · exact numBad_long h hc
      rw [this] at hb; cases hb
  · rename_i hc
    refine ⟨numR l, ?_, fun _ => rfl⟩
    simp only [V.tup.injEq,List.cons.injEq,V.bool.injEq,and_true,true_and]
    unfold numBad
    rw [Bool.eq_iff_iff]
    rcases Classical.em (l.head? = some 48) with e | e <;> simp [e] at hc ⊢ <;> omega
theorem indexByte_line (s : List UInt8) (i : Nat) (hi : i ≤ s.length) : (if Lib.indexByte (s.drop i) 10 ≥ 0 then (i : Int) + Lib.indexByte (s.drop i) 10 else (s.length : Int)) = lineEnd s i := by
  have key : ∀ l : List UInt8, Lib.indexByte l 10 = match l.findIdx? (· == 10) with
      | some k => (k : Int)
      | none => -1 := by
    intro l
    induction l with
    | nil => rfl
    | cons b l ih =>
      simp only [Lib.indexByte,List.findIdx?_cons,ih]
      by_cases hb : (b == 10) = true
      · simp [hb]
      · simp only [hb]
        cases l.findIdx? (· == 10) with
        | none => simp
        | some k => simp <;> omega
  unfold lineEnd
  rw [key]
  cases (s.drop i).findIdx? (· == 10) with
  | none => simp
  | some k => simp <;> omega
theorem lineEnd_le (s : List UInt8) (i : Nat) (hi : i ≤ s.length) : i ≤ lineEnd s i ∧ lineEnd s i ≤ s.length := by
  unfold lineEnd
  cases h : (s.drop i).findIdx? (· == 10) with
  | none => simp; exact hi
  | some k =>
    obtain ⟨h1, _⟩ := List.findIdx?_eq_some_iff_getElem.1 h
    simp at h1 ⊢; omega
end Go.Vc
namespace Go.Vc
open Go.Proofs
def nextV : Option Tk → V
  | some t => .tup [encT t, .bool true]
  | none => .tup [.agg [vI 0, .int .i32 0, vI 0, vI 0], .bool false]
theorem loadV_rp_str (σ : Store) (sz : Nat) (l : List UInt8) : loadV σ false sz (.rp (.str l)) = some (.str l) := rfl
theorem upd_self {σ : Store} {id : Nat} {o : Ob} (h : σ id = some o) : upd σ id o = σ := by
  funext i
  unfold upd
  split
  · rename_i e; rw [e, h]
  · rfl
theorem next_end {σ σ1 : Store} {id : Nat} {o : Ob} {r v : V} (hv : r = v) (hs : SubStore (upd σ id o) σ1) : RetV r σ1 fun r σ' => r = v ∧ σ' = upd σ id o :=
  RetV.pure hs hv
set_option maxRecDepth 100000 in
theorem next_c (s : List UInt8) (hs : s.length ≤ 1000000) (i c skip id : Nat) (hi : i < s.length) (hc : c ≤ 2200000) (hcb : c ≤ 127 → c = byt s i) (hk : skip ≤ s.length) (σ : Store) (ho : σ id = some ⟨3, 1, [vI skip]⟩) :
    Contract Tryz.prog 46 [vI i, .int .i32 c, .ptr id 0 0, .rp (.str s)] σ fun r σ' => r = nextV (nextI s skip i c).1 ∧ σ' = upd σ id ⟨3, 1, [vI (nextI s skip i c).2]⟩ := by
  refine Contract.of_runs Tryz.func46 e46 k46 (by simp [c46]) ?_
  refine Runs.mix 12 ?_
  have hslice : sliceSV (.str s) (some (vI i)) none = some (.str (s.drop i)) := by
    simp only [sliceSV,boundV]
    rw [if_pos (by omega), show ((s.length : Int)).toNat - ((i : Int)).toNat = s.length - i by omega, Int.toNat_natCast, List.take_of_length_le (by simp)]
  generalize hn : nextI s skip i c = nx
  unfold nextI at hn
  (refine Runs.of_step Orc.nothing 300 ?_; simp -implicitDefEqProofs only [BB,seval,← decide_not,okind,vpre,vpure,intBin,intPre,strBin,strPre,popTo,argSlots,fldV,fldAV,subCells,idxVV,idxAAV,idxSV,sliceV,sliceSV,boundV,szIs,storeOp,storeS,setRowV,eff,extV,buildV,splice,eqSV,fitsL,eqCells,eqCell,minmaxV,capV,binBV,nilCheckV,bytesV,V.cells,V.stays,Orc.nothing,c46])
  refine effR_new fun id6 σ1 s1 a6 f6 => ?_
  have hid : id ≠ id6 := ne_new ho f6
  have ho1 := s1 _ _ ho
  have hid' := hid.symm
  have fin : ∀ o o6, SubStore (upd σ id o) (upd (upd σ1 id o) id6 o6) := fun o o6 => SubStore.updK (SubStore.upd2 s1) (by rw [upd_ne hid']; exact f6)
  have fin0 : ∀ o6, SubStore (upd σ id ⟨3, 1, [vI skip]⟩) (upd σ1 id6 o6) := fun o6 => by rw [upd_self ho]; exact SubStore.updK s1 f6
  by_cases hsk : i < skip
  · have q1 : ((i : Int) < (skip : Int)) = True := by simp; omega
    rw [if_pos (.inl hsk)] at hn
    subst hn
    simp -implicitDefEqProofs only [BB,seval,← decide_not,okind,vpre,vpure,intBin,intPre,strBin,strPre,popTo,argSlots,fldV,fldAV,subCells,idxVV,idxAAV,idxSV,sliceV,sliceSV,boundV,szIs,storeOp,storeS,setRowV,eff,extV,buildV,splice,eqSV,fitsL,eqCells,eqCell,minmaxV,capV,binBV,nilCheckV,bytesV,V.cells,V.stays,ho1,a6,q1,upd_ne hid,upd_ne hid',loadV_rp_str]
    exact next_end rfl (fin0 _)
  · have q1 : ((i : Int) < (skip : Int)) = False := by simp; omega
    simp -implicitDefEqProofs only [BB,seval,← decide_not,okind,vpre,vpure,intBin,intPre,strBin,strPre,popTo,argSlots,fldV,fldAV,subCells,idxVV,idxAAV,idxSV,sliceV,sliceSV,boundV,szIs,storeOp,storeS,setRowV,eff,extV,buildV,splice,eqSV,fitsL,eqCells,eqCell,minmaxV,capV,binBV,nilCheckV,bytesV,V.cells,V.stays,ho1,a6,q1,upd_ne hid,upd_ne hid',loadV_rp_str]
    refine Runs.pcall rfl rfl rfl (white_c c _) ?_
    by_cases hw : c = 32 ∨ c = 9 ∨ c = 10
    · have hw' : isWhite c = true := by simp [isWhite]; omega
      rw [if_pos (.inr hw)] at hn
      subst hn
      (refine Runs.of_step Orc.nothing 300 ?_; simp -implicitDefEqProofs only [BB,seval,← decide_not,okind,vpre,vpure,intBin,intPre,strBin,strPre,popTo,argSlots,fldV,fldAV,subCells,idxVV,idxAAV,idxSV,sliceV,sliceSV,boundV,szIs,storeOp,storeS,setRowV,eff,extV,buildV,splice,eqSV,fitsL,eqCells,eqCell,minmaxV,capV,binBV,nilCheckV,bytesV,V.cells,V.stays,Orc.nothing,ho1,a6,hw',upd_ne hid,upd_ne hid',loadV_rp_str])
      exact next_end rfl (fin0 _)
    · have hw' : isWhite c = false := by simp [isWhite]; omega
      rw [if_neg (by omega)] at hn
      by_cases h35 : c = 35
      · have q2 : ((c : Int) = 35) = True := by simp [h35]
        have hline := indexByte_line s i (by omega)
        have hll := lineEnd_le s i (by omega)
        rw [if_pos h35] at hn
        subst hn
        (refine Runs.of_step Orc.nothing 300 ?_; simp -implicitDefEqProofs only [BB,seval,← decide_not,okind,vpre,vpure,intBin,intPre,strBin,strPre,popTo,argSlots,fldV,fldAV,subCells,idxVV,idxAAV,idxSV,sliceV,boundV,szIs,storeOp,storeS,setRowV,eff,extV,buildV,splice,eqSV,fitsL,eqCells,eqCell,minmaxV,capV,binBV,nilCheckV,bytesV,V.cells,V.stays,Orc.nothing,ho1,a6,hw',q2,hslice,upd_ne hid,upd_ne hid',loadV_rp_str])
        refine Runs.pcall rfl rfl rfl (indexByte_c _ _) ?_
        generalize Lib.indexByte (s.drop i) 10 = b at *
        by_cases hb : b ≥ 0
        · have q3 : (b ≥ 0) = True := by simp [hb]
          rw [if_pos hb] at hline
          have r1 : inR .i64 ((i : Int) + b) := inR_i64 (by omega) (by omega)
          (refine Runs.of_step Orc.nothing 300 ?_; simp -implicitDefEqProofs only [BB,seval,← decide_not,okind,vpre,vpure,intBin,intPre,strBin,strPre,popTo,argSlots,fldV,fldAV,subCells,idxVV,idxAAV,idxSV,sliceV,sliceSV,boundV,szIs,storeOp,storeS,setRowV,eff,extV,buildV,splice,eqSV,fitsL,eqCells,eqCell,minmaxV,capV,binBV,nilCheckV,bytesV,V.cells,V.stays,Orc.nothing,ho1,a6,q3,r1,upd_ne hid,upd_ne hid',loadV_rp_str])
          rw [hline]
          exact next_end rfl (fin _ _)
        · have q3 : (b ≥ 0) = False := by simp; omega
          rw [if_neg hb] at hline
          (refine Runs.of_step Orc.nothing 300 ?_; simp -implicitDefEqProofs only [BB,seval,← decide_not,okind,vpre,vpure,intBin,intPre,strBin,strPre,popTo,argSlots,fldV,fldAV,subCells,idxVV,idxAAV,idxSV,sliceV,sliceSV,boundV,szIs,storeOp,storeS,setRowV,eff,extV,buildV,splice,eqSV,fitsL,eqCells,eqCell,minmaxV,capV,binBV,nilCheckV,bytesV,V.cells,V.stays,Orc.nothing,ho1,a6,q3,upd_ne hid,upd_ne hid',loadV_rp_str])
          rw [hline]
          exact next_end rfl (fin _ _)
      · have q2 : ((c : Int) = 35) = False := by simp; omega
        rw [if_neg h35] at hn
        (refine Runs.of_step Orc.nothing 300 ?_; simp -implicitDefEqProofs only [BB,seval,← decide_not,okind,vpre,vpure,intBin,intPre,strBin,strPre,popTo,argSlots,fldV,fldAV,subCells,idxVV,idxAAV,idxSV,sliceV,sliceSV,boundV,szIs,storeOp,storeS,setRowV,eff,extV,buildV,splice,eqSV,fitsL,eqCells,eqCell,minmaxV,capV,binBV,nilCheckV,bytesV,V.cells,V.stays,Orc.nothing,ho1,a6,hw',q2,upd_ne hid,upd_ne hid',loadV_rp_str])
        refine Runs.pcall rfl rfl rfl (digit_c c _) ?_
        by_cases hd : 48 ≤ c ∧ c ≤ 57
        · have hd' : isDig c = true := by simp [isDig]; omega
          rw [if_pos hd] at hn
          subst hn
          have hcb' := hcb (by omega)
          have hdp := digLen_pos (s := s) (i := i) (by omega) (by omega)
          have hdl : i + digLen (s.drop i) ≤ s.length := by have := digLen_le (s.drop i); simp at this; omega
          have hne : digsAt s i ≠ [] := fun e => by have := len_digs (s := s) (j := i); rw [e] at this; simp at this; omega
          obtain ⟨n, g1, g2⟩ := numV_T (digs_dig s i) hne
          (refine Runs.of_step Orc.nothing 300 ?_; simp -implicitDefEqProofs only [BB,seval,← decide_not,okind,vpre,vpure,intBin,intPre,strBin,strPre,popTo,argSlots,fldV,fldAV,subCells,idxVV,idxAAV,idxSV,sliceV,boundV,szIs,storeOp,storeS,setRowV,eff,extV,buildV,splice,eqSV,fitsL,eqCells,eqCell,minmaxV,capV,binBV,nilCheckV,bytesV,V.cells,V.stays,Orc.nothing,ho1,a6,hd',hslice,upd_ne hid,upd_ne hid',loadV_rp_str])
          refine Runs.pcall rfl rfl rfl (digits_c (s.drop i) (by simp; omega) _) ?_
          have r1 : inR .i64 ((i : Int) + (digLen (s.drop i) : Int)) := inR_i64 (by omega) (by omega)
          have hsl2 : sliceSV (.str s) (some (vI i)) (some (vI ((i : Int) + (digLen (s.drop i) : Int)))) = some (.str (digsAt s i)) := by
            simp only [sliceSV,boundV]
            rw [if_pos (by omega)]
            unfold digsAt
            congr 3
            omega
          (refine Runs.of_step Orc.nothing 300 ?_; simp -implicitDefEqProofs only [BB,seval,← decide_not,okind,vpre,vpure,intBin,intPre,strBin,strPre,popTo,argSlots,fldV,fldAV,subCells,idxVV,idxAAV,idxSV,sliceV,boundV,szIs,storeOp,storeS,setRowV,eff,extV,buildV,splice,eqSV,fitsL,eqCells,eqCell,minmaxV,capV,binBV,nilCheckV,bytesV,V.cells,V.stays,Orc.nothing,ho1,a6,r1,hsl2,upd_ne hid,upd_ne hid',loadV_rp_str])
          refine Runs.pcall rfl rfl rfl (number_c _ (digs_dig s i) hne _) ?_
          rw [g1]
          have hT : numT (digsAt s i) = (if numBad (digsAt s i) then (-1 : Int) else (numR (digsAt s i) : Int)) := rfl
          generalize numT (digsAt s i) = T at *
          cases hb : numBad (digsAt s i)
          · rw [hb, if_neg (by simp), ← g2 hb] at hT
            subst hT
            (refine Runs.of_step Orc.nothing 300 ?_; simp -implicitDefEqProofs only [BB,seval,← decide_not,okind,vpre,vpure,intBin,intPre,strBin,strPre,popTo,argSlots,fldV,fldAV,subCells,idxVV,idxAAV,idxSV,sliceV,sliceSV,boundV,szIs,storeOp,storeS,setRowV,eff,extV,buildV,splice,eqSV,fitsL,eqCells,eqCell,minmaxV,capV,binBV,nilCheckV,bytesV,V.cells,V.stays,Orc.nothing,ho1,a6,hb,upd_ne hid,upd_ne hid',loadV_rp_str])
            exact next_end rfl (fin _ _)
          · rw [hb, if_pos rfl] at hT
            subst hT
            (refine Runs.of_step Orc.nothing 300 ?_; simp -implicitDefEqProofs only [BB,seval,← decide_not,okind,vpre,vpure,intBin,intPre,strBin,strPre,popTo,argSlots,fldV,fldAV,subCells,idxVV,idxAAV,idxSV,sliceV,sliceSV,boundV,szIs,storeOp,storeS,setRowV,eff,extV,buildV,splice,eqSV,fitsL,eqCells,eqCell,minmaxV,capV,binBV,nilCheckV,bytesV,V.cells,V.stays,Orc.nothing,ho1,a6,hb,upd_ne hid,upd_ne hid',loadV_rp_str])
            exact next_end rfl (fin _ _)
        · have hd' : isDig c = false := by simp [isDig]; omega
          rw [if_neg hd] at hn
          subst hn
          (refine Runs.of_step Orc.nothing 300 ?_; simp -implicitDefEqProofs only [BB,seval,← decide_not,okind,vpre,vpure,intBin,intPre,strBin,strPre,popTo,argSlots,fldV,fldAV,subCells,idxVV,idxAAV,idxSV,sliceV,sliceSV,boundV,szIs,storeOp,storeS,setRowV,eff,extV,buildV,splice,eqSV,fitsL,eqCells,eqCell,minmaxV,capV,binBV,nilCheckV,bytesV,V.cells,V.stays,Orc.nothing,ho1,a6,hd',upd_ne hid,upd_ne hid',loadV_rp_str])
          exact next_end rfl (fin0 _)
end Go.Vc
namespace Go.Vc
open Go.Proofs
theorem allI_end {s : List UInt8} {skip i : Nat} (h : ¬ i < s.length) : allI s skip i = [] := by rw [allI, dif_neg h]
theorem allI_step {s : List UInt8} {skip i : Nat} (h : i < s.length) : allI s skip i = (nextI s skip i (decR s i).1).1.toList ++ allI s (nextI s skip i (decR s i).1).2 (i + (decR s i).2) := by
  rw [allI.eq_def s skip i, dif_pos h]
theorem nextI_le {s : List UInt8} {skip i c : Nat} (hi : i < s.length) (hk : skip ≤ s.length) : (nextI s skip i c).2 ≤ s.length := by
  unfold nextI
  split
  · exact hk
  · split
    · exact (lineEnd_le s i (by omega)).2
    · split
      · have := digLen_le (s.drop i); simp at this ⊢; omega
      · exact hk
theorem decR_ascii {s : List UInt8} {i : Nat} (hi : i < s.length) (h : (decR s i).1 ≤ 127) : (decR s i).1 = byt s i := by
  unfold decR at h ⊢
  by_cases hz : sizeR s i = 0
  · rw [if_pos hz] at h; simp at h
  · rw [if_neg hz] at h ⊢
    rcases sizeR_cases s i with g | g | g | g | g
    · exact absurd g hz
    · rw [g.1]; rfl
    · rw [g.1] at h; have : 64 * (byt s i - 192) + byt s (i + 1) - 128 ≤ 127 := h; omega
    · rw [g.1] at h; have h : 64 * (64 * (byt s i - 224) + byt s (i + 1) - 128) + byt s (i + 2) - 128 ≤ 127 := h
      exfalso
      have hq : sizeR s i = 3 := g.1
      unfold sizeR at hq
      rcases (show byt s i = 224 ∨ 225 ≤ byt s i by omega) with e | e
      · simp [inB, moreB, e] at hq; omega
      · omega
    · rw [g.1] at h; have h : 64 * (64 * (64 * (byt s i - 240) + byt s (i + 1) - 128) + byt s (i + 2) - 128) + byt s (i + 3) - 128 ≤ 127 := h
      exfalso
      have hq : sizeR s i = 4 := g.1
      unfold sizeR at hq
      rcases (show byt s i = 240 ∨ 241 ≤ byt s i by omega) with e | e
      · simp [inB, moreB, e] at hq; omega
      · omega
theorem decR_le2 (s : List UInt8) (i : Nat) : (decR s i).1 ≤ 2200000 := by
  unfold decR; split
  · simp
  · exact Nat.le_trans (runeR_lt s i) (by omega)
set_option maxRecDepth 100000 in
theorem all_iter (s : List UInt8) (hs : s.length ≤ 1000000) : Iter Tryz.prog 45 [.rp (.str s)] ((allI s 0 0).map fun t => [encT t]) := by
  refine ⟨k23, fun idl J Jx σ0 hy hJ => ?_⟩
  refine (Contract.of_runs Tryz.func45 e45 k45 (by simp [c45]) ?_).2
  refine Runs.mix 12 ?_
  (refine Runs.of_step Orc.nothing 300 ?_; simp -implicitDefEqProofs only [BB,seval,← decide_not,okind,vpre,vpure,intBin,intPre,strBin,strPre,popTo,argSlots,fldV,fldAV,subCells,idxVV,idxAAV,idxSV,sliceV,sliceSV,boundV,szIs,storeOp,storeS,setRowV,eff,extV,buildV,splice,eqSV,fitsL,eqCells,eqCell,minmaxV,capV,binBV,nilCheckV,bytesV,V.cells,V.stays,Orc.nothing,c45,loadV_rp_str])
  refine effR_new fun id3 σ1 s1 a3 f3 => ?_
  simp -implicitDefEqProofs only [BB,seval,← decide_not,okind,vpre,vpure,intBin,intPre,strBin,strPre,popTo,argSlots,fldV,fldAV,subCells,idxVV,idxAAV,idxSV,sliceV,sliceSV,boundV,szIs,storeOp,storeS,setRowV,eff,extV,buildV,splice,eqSV,fitsL,eqCells,eqCell,minmaxV,capV,binBV,nilCheckV,bytesV,V.cells,V.stays,a3,loadV_rp_str]
  refine Runs.rngS rfl rfl rfl fun idr hr => ?_
  have hr : (upd σ1 id3 ⟨3, 1, [vI 0]⟩) idr = none := hr
  have hne : id3 ≠ idr := by rintro rfl; rw [upd_same] at hr; cases hr
  have hr1 : σ1 idr = none := by rw [upd_ne hne.symm] at hr; exact hr
  (refine Runs.of_step Orc.nothing 300 ?_; simp -implicitDefEqProofs only [BB,seval,← decide_not,okind,vpre,vpure,intBin,intPre,strBin,strPre,popTo,argSlots,fldV,fldAV,subCells,idxVV,idxAAV,idxSV,sliceV,sliceSV,boundV,szIs,storeOp,storeS,setRowV,eff,extV,buildV,splice,eqSV,fitsL,eqCells,eqCell,minmaxV,capV,binBV,nilCheckV,bytesV,V.cells,V.stays,Orc.nothing])
  refine Runs.loop (fun m st => ∃ (j skip : Nat) (pre : List Tk) (σJ : Store), j ≤ s.length ∧ m = s.length - j ∧ skip ≤ s.length ∧ allI s 0 0 = pre ++ allI s skip j ∧ J (pre.map fun t => [encT t]) σJ ∧ SubStore σJ st.σ ∧
    σJ id3 = none ∧ σJ idr = none ∧ st.σ id3 = some ⟨3, 1, [vI skip]⟩ ∧ st.σ idr = some (gh (.stringIter ⟨s.toArray⟩ j)) ∧ st.s 0 = .yl idl ∧ st.s 4 = .fn 46 [.ptr id3 0 0, .rp (.str s)] ∧ st.s 11 = .gp idr) s.length ?_ ?_
  · refine ⟨0, 0, [], σ0, by omega, by omega, by omega, rfl, hJ, ?_, f3, s1.none hr1, ?_, ?_, rfl, rfl, rfl⟩
    · exact (s1.updK f3).updK (s1.none hr1)
    · show upd (upd σ1 id3 _) idr _ id3 = _
      rw [upd_ne hne, upd_same]; rfl
    · exact upd_same
  · rintro m ⟨s', σ'⟩ ⟨j, skip, pre, σJ, hj, rfl, hsk, hp, hJp, hsub, n3, nr, h3, hrow, h0, h4, h11⟩
    simp only at hsub h3 hrow h0 h4 h11
    refine Runs.mix 12 ?_
    (refine Runs.of_step Orc.nothing 300 ?_; simp -implicitDefEqProofs only [BB,seval,← decide_not,okind,vpre,vpure,intBin,intPre,strBin,strPre,popTo,argSlots,fldV,fldAV,subCells,idxVV,idxAAV,idxSV,sliceV,sliceSV,boundV,szIs,storeOp,storeS,setRowV,eff,extV,buildV,splice,eqSV,fitsL,eqCells,eqCell,minmaxV,capV,binBV,nilCheckV,bytesV,V.cells,V.stays,Orc.nothing])
    refine Runs.nxtS rfl rfl h11 hrow (fun hlt => ?_) (fun hlt => ?_)
    · rw [decode_decR hlt]
      have hle := decR_le hlt
      have hpos := decR_pos s j
      have hd2 := decR_le2 s j
      have hda := decR_ascii hlt
      have hst := allI_step (skip := skip) hlt
      have hnl := nextI_le (c := (decR s j).1) hlt hsk
      generalize decR s j = d at *
      obtain ⟨c, sz⟩ := d
      simp only at hle hpos hd2 hda hst hnl
      have hnr3 : idr ≠ id3 := hne.symm
      generalize hσ2 : upd σ' idr (gh (.stringIter ⟨s.toArray⟩ (j + sz))) = σ2
      have g3 : σ2 id3 = some ⟨3, 1, [vI skip]⟩ := by rw [← hσ2, upd_ne hne]; exact h3
      have gr : σ2 idr = some (gh (.stringIter ⟨s.toArray⟩ (j + sz))) := by rw [← hσ2, upd_same]
      have hsub2 : SubStore σJ σ2 := by rw [← hσ2]; exact hsub.updK nr
      (refine Runs.of_step Orc.nothing 300 ?_; simp -implicitDefEqProofs only [BB,seval,← decide_not,okind,vpre,vpure,intBin,intPre,strBin,strPre,popTo,argSlots,fldV,fldAV,subCells,idxVV,idxAAV,idxSV,sliceV,sliceSV,boundV,szIs,storeOp,storeS,setRowV,eff,extV,buildV,splice,eqSV,fitsL,eqCells,eqCell,minmaxV,capV,binBV,nilCheckV,bytesV,V.cells,V.stays,Orc.nothing,h0,h4,h11])
      refine Runs.call rfl rfl rfl (next_c s hs j c skip id3 hlt hd2 (fun h => hda h) hsk _ g3) ?_
      rintro r σ3 ⟨rfl, rfl⟩
      generalize nextI s skip j c = nx at *
      obtain ⟨t, sk⟩ := nx
      simp only at hst hnl ⊢
      generalize hσ3 : upd σ2 id3 ⟨3, 1, [vI sk]⟩ = σ3
      have g3' : σ3 id3 = some ⟨3, 1, [vI sk]⟩ := by rw [← hσ3, upd_same]
      have gr' : σ3 idr = some (gh (.stringIter ⟨s.toArray⟩ (j + sz))) := by rw [← hσ3, upd_ne hnr3]; exact gr
      have hsub3 : SubStore σJ σ3 := by rw [← hσ3]; exact hsub2.updK n3
      cases t with
      | none =>
        simp only [nextV]
        (refine Runs.of_step Orc.nothing 300 ?_; simp -implicitDefEqProofs only [BB,seval,← decide_not,okind,vpre,vpure,intBin,intPre,strBin,strPre,popTo,argSlots,fldV,fldAV,subCells,idxVV,idxAAV,idxSV,sliceV,sliceSV,boundV,szIs,storeOp,storeS,setRowV,eff,extV,buildV,splice,eqSV,fitsL,eqCells,eqCell,minmaxV,capV,binBV,nilCheckV,bytesV,V.cells,V.stays,Orc.nothing,h0,h4,h11])
        refine effR_new fun id7 σ4 s4 a7 f7 => ?_
        have m3 : id3 ≠ id7 := ne_new g3' f7
        have mr : idr ≠ id7 := ne_new gr' f7
        simp -implicitDefEqProofs only [BB,seval,← decide_not,okind,vpre,vpure,intBin,intPre,strBin,strPre,popTo,argSlots,fldV,fldAV,subCells,idxVV,idxAAV,idxSV,sliceV,sliceSV,boundV,szIs,storeOp,storeS,setRowV,eff,extV,buildV,splice,eqSV,fitsL,eqCells,eqCell,minmaxV,capV,binBV,nilCheckV,bytesV,V.cells,V.stays,a7,h0,h4,h11]
        refine ⟨_, ?_, j + sz, sk, pre, σJ, by omega, rfl, hnl, ?_, hJp, ?_, n3, nr, ?_⟩
        · omega
        · rw [hp, hst]; rfl
        · exact (hsub3.trans s4).updK (hsub3.none f7)
        · rw [upd_ne m3, upd_ne mr]
          simp [s4 _ _ g3', s4 _ _ gr', h0, h4, h11]
      | some t =>
        have hxs : ((allI s 0 0).map fun t => [encT t]) = (pre.map fun t => [encT t]) ++ [encT t] :: ((allI s sk (j + sz)).map fun t => [encT t]) := by
          rw [hp, hst]; simp
        simp only [nextV]
        have hcell : (encT t).cells = [vI t.kind, .int .i32 t.sign, vI t.n, vI t.at'] := rfl
        (refine Runs.of_step Orc.nothing 300 ?_; simp -implicitDefEqProofs only [BB,seval,← decide_not,okind,vpre,vpure,intBin,intPre,strBin,strPre,popTo,argSlots,fldV,fldAV,subCells,idxVV,idxAAV,idxSV,sliceV,sliceSV,boundV,szIs,storeOp,storeS,setRowV,eff,extV,buildV,splice,eqSV,fitsL,eqCells,eqCell,minmaxV,capV,binBV,nilCheckV,bytesV,V.cells,V.stays,Orc.nothing,h0,h4,h11,encT])
        refine effR_new fun id7 σ4 s4 a7 f7 => ?_
        have m3 : id3 ≠ id7 := ne_new g3' f7
        have mr : idr ≠ id7 := ne_new gr' f7
        simp -implicitDefEqProofs only [BB,seval,← decide_not,okind,vpre,vpure,intBin,intPre,strBin,strPre,popTo,argSlots,fldV,fldAV,subCells,idxVV,idxAAV,idxSV,sliceV,sliceSV,boundV,szIs,storeOp,storeS,setRowV,eff,extV,buildV,splice,eqSV,fitsL,eqCells,eqCell,minmaxV,capV,binBV,nilCheckV,bytesV,V.cells,V.stays,a7,h0,h4,h11]
        generalize hσ5 : upd σ4 id7 _ = σ5
        have g3'' : σ5 id3 = some ⟨3, 1, [vI sk]⟩ := by rw [← hσ5, upd_ne m3]; exact s4 _ _ g3'
        have gr'' : σ5 idr = some (gh (.stringIter ⟨s.toArray⟩ (j + sz))) := by rw [← hσ5, upd_ne mr]; exact s4 _ _ gr'
        have hsub5 : SubStore σJ σ5 := by rw [← hσ5]; exact (hsub3.trans s4).updK (hsub3.none f7)
        refine Runs.ycall (Post := fun b σ' => ∃ σJ', Beside σJ σ5 σJ' σ' ∧ ((b = true ∧ J ((pre.map fun t => [encT t]) ++ [[encT t]]) σJ') ∨ (b = false ∧ Jx ((pre.map fun t => [encT t]) ++ [[encT t]]) σJ'))) rfl rfl rfl (hy _ [encT t] _ σJ σ5 hxs hJp hsub5) ?_
        rintro b σ6 ⟨σJ', hbs, hb⟩
        obtain ⟨q3, q3'⟩ := hbs.2 id3 _ n3 g3''
        obtain ⟨qr, qr'⟩ := hbs.2 idr _ nr gr''
        rcases hb with ⟨rfl, hb⟩ | ⟨rfl, hb⟩
        · (refine Runs.of_step Orc.nothing 300 ?_; simp -implicitDefEqProofs only [BB,seval,← decide_not,okind,vpre,vpure,intBin,intPre,strBin,strPre,popTo,argSlots,fldV,fldAV,subCells,idxVV,idxAAV,idxSV,sliceV,sliceSV,boundV,szIs,storeOp,storeS,setRowV,eff,extV,buildV,splice,eqSV,fitsL,eqCells,eqCell,minmaxV,capV,binBV,nilCheckV,bytesV,V.cells,V.stays,Orc.nothing,h0,h4,h11])
          refine ⟨_, ?_, j + sz, sk, pre ++ [t], σJ', by omega, rfl, hnl, ?_, ?_, hbs.1, q3', qr', by simp [q3, qr, h0, h4, h11]⟩
          · omega
          · rw [hp, hst]; simp
          · show J ((pre ++ [t]).map fun t => [encT t]) σJ'
            rw [List.map_append]; exact hb
        · (refine Runs.of_step Orc.nothing 300 ?_; simp -implicitDefEqProofs only [BB,seval,← decide_not,okind,vpre,vpure,intBin,intPre,strBin,strPre,popTo,argSlots,fldV,fldAV,subCells,idxVV,idxAAV,idxSV,sliceV,sliceSV,boundV,szIs,storeOp,storeS,setRowV,eff,extV,buildV,splice,eqSV,fitsL,eqCells,eqCell,minmaxV,capV,binBV,nilCheckV,bytesV,V.cells,V.stays,Orc.nothing,h0,h4,h11])
          refine ⟨_, σJ', hbs.1, Wk.refl hbs.1 _, .inr ⟨(pre.map fun t => [encT t]) ++ [[encT t]], ?_, hb⟩⟩
          show _ <+: (allI s 0 0).map fun t => [encT t]
          rw [hxs]
          exact ⟨(allI s sk (j + sz)).map fun t => [encT t], by simp⟩
    · (refine Runs.of_step Orc.nothing 300 ?_; simp -implicitDefEqProofs only [BB,seval,← decide_not,okind,vpre,vpure,intBin,intPre,strBin,strPre,popTo,argSlots,fldV,fldAV,subCells,idxVV,idxAAV,idxSV,sliceV,sliceSV,boundV,szIs,storeOp,storeS,setRowV,eff,extV,buildV,splice,eqSV,fitsL,eqCells,eqCell,minmaxV,capV,binBV,nilCheckV,bytesV,V.cells,V.stays,Orc.nothing,h0,h4,h11])
      refine ⟨_, σJ, hsub, Wk.refl hsub _, .inl ?_⟩
      rw [hp, allI_end hlt, List.append_nil]
      exact hJp
end Go.Vc
namespace Go.Vc
open Go.Proofs
theorem all_c (s : List UInt8) : PFun Tryz.prog 27 [.str s] (.fn 45 [.rp (.str s)]) := fun σ => by
  refine Contract.of_runs Tryz.func27 e27 k27 (by simp [c27]) ?_
  refine Runs.mix 3 ?_
  (refine Runs.of_step Orc.nothing 300 ?_; simp -implicitDefEqProofs only [BB,seval,← decide_not,okind,vpre,vpure,intBin,intPre,strBin,strPre,popTo,argSlots,fldV,fldAV,subCells,idxVV,idxAAV,idxSV,sliceV,sliceSV,boundV,szIs,storeOp,storeS,setRowV,eff,extV,buildV,splice,eqSV,fitsL,eqCells,eqCell,minmaxV,capV,binBV,nilCheckV,bytesV,V.cells,V.stays,Orc.nothing,c27])
  refine effR_new fun id1 σ1 s1 a1 f1 => ?_
  simp -implicitDefEqProofs only [BB,seval,← decide_not,okind,vpre,vpure,intBin,intPre,strBin,strPre,popTo,argSlots,fldV,fldAV,subCells,idxVV,idxAAV,idxSV,sliceV,sliceSV,boundV,szIs,storeOp,storeS,setRowV,eff,extV,buildV,splice,eqSV,fitsL,eqCells,eqCell,minmaxV,capV,binBV,nilCheckV,bytesV,V.cells,V.stays]
  exact ⟨_, σ, s1, Wk.fn (vs' := [.rp (.str s)]) ⟨Wk.ptr s1 a1 f1, trivial⟩, rfl, rfl⟩
theorem T.cell {P : Program} {S : Nat → V} {σx : Store} {sl id e : Nat} {old new : V} {xv : VX} {Kt : St → Prop} (h : S sl = .ptr id 0 0) (h2 : σx id = some ⟨e, 1, [old]⟩) (h3 : old.cells.length = 1) (h4 : xv.ev S = new)
    (h5 : new.cells.length = 1) (h6 : new.stays = true) (hk : Kt ⟨S, upd σx id ⟨e, 1, [new]⟩⟩) : T P ⟨none, .store 1 (.t sl) xv, none⟩ ⟨S, σx⟩ Kt := by
  have hs : setRowV old 0 1 new = some new := by simp [setRowV, h5, h6, h3]
  refine T.store (σ' := upd σx id ⟨e, 1, [new]⟩) ?_ hk
  show storeS σx 1 (S sl) (xv.ev S) = _
  rw [h, h4]
  simp only [storeS,h2,List.getElem?_cons_zero,hs,List.set_cons_zero]
theorem Beside.delO {σJ σ σJ' σ' : Store} (h : Beside σJ σ σJ' σ') {e : Option Nat} (he : ∀ i, e = some i → ∃ o, σJ' i = some o) : Beside σJ σ (Vc.delO σJ' e) (Vc.delO σ' e) := by
  cases e with
  | none => exact h
  | some e =>
    refine ⟨del_sub h.1, fun i o h1 h2 => ?_⟩
    obtain ⟨h3, h4⟩ := h.2 i o h1 h2
    have : i ≠ e := fun e' => by subst e'; obtain ⟨o', ho'⟩ := he i rfl; rw [h4] at ho'; cases ho'
    simp only [Vc.delO,del_ne this]
    exact ⟨h3, h4⟩
theorem OutV.dst' {K σJ σ1 : Store} {e sz : Nat} {v : V} {rows : List V} (h : OutV K σJ e sz v rows) (hs : SubStore σJ σ1) :
    ∃ idA, dstRows σ1 e sz v = some (rows, idA) ∧ ∀ i, idA = some i → K i = none ∧ ∃ o, σJ i = some o := by
  rcases h with ⟨rfl, rfl⟩ | ⟨id, rfl, ho, hk⟩
  · exact ⟨none, rfl, fun _ h => by cases h⟩
  · refine ⟨some id, ?_, fun i h => by cases h; exact ⟨hk, _, ho⟩⟩
    simp only [dstRows,hs _ _ ho]
    rw [if_pos ⟨trivial, trivial, trivial, Nat.le_refl _⟩, List.take_length]
theorem Ret_cells {s : Nat → V} {σ : Store} {a b c d e f g h i : _} {Post : V → Store → Prop} :
    Ret [.cell a b (.t c), .cell d e (.t f), .cell g h (.t i)] ⟨s, σ⟩ Post = onSome (loadV σ a b (s c)) fun v => onSome (loadV σ d e (s f)) fun u => onSome (loadV σ g h (s i)) fun w => RetV (.tup [v, u, w]) σ Post := by
  unfold Ret RetV resV
  simp only [resAll,resOne,VX.ev]
  cases loadV σ a b (s c) <;> simp [onSome]
  cases loadV σ d e (s f) <;> simp [onSome]
  cases loadV σ g h (s i) <;> simp [onSome]
structure JOf (σ K : Store) (id2 id3 id4 : Nat) (v a b : V) (rows : List V) (σJ : Store) : Prop where
  r2 : σJ id2 = some ⟨34, 1, [v]⟩
  r3 : σJ id3 = some ⟨3, 1, [a]⟩
  r4 : σJ id4 = some ⟨23, 1, [b]⟩
  sub : SubStore σ σJ
  out : OutV K σJ 44 4 v rows
theorem nextI_at {s : List UInt8} {skip i c : Nat} {t : Tk} (h : (nextI s skip i c).1 = some t) : t.at' = i := by
  unfold nextI at h
  (repeat' split at h) <;> simp at h <;> subst h <;> rfl
theorem allI_at (s : List UInt8) : ∀ (m skip i : Nat), s.length - i ≤ m → ∀ t ∈ allI s skip i, 0 ≤ t.at'
  | m, skip, i, hm, t, ht => by
    by_cases hi : i < s.length
    · have hpos := decR_pos s i
      rw [allI_step hi, List.mem_append] at ht
      rcases ht with ht | ht
      · have := nextI_at (t := t) (by simpa using ht)
        omega
      · cases m with
        | zero => omega
        | succ m => exact allI_at s m _ _ (by omega) t ht
    · rw [allI_end hi] at ht; cases ht
theorem allI_len (s : List UInt8) : ∀ (m skip i : Nat), s.length - i ≤ m → (allI s skip i).length ≤ s.length - i
  | m, skip, i, hm => by
    by_cases hi : i < s.length
    · have hpos := decR_pos s i
      rw [allI_step hi, List.length_append]
      cases m with
      | zero => omega
      | succ m =>
        have := allI_len s m (nextI s skip i (decR s i).1).2 (i + (decR s i).2) (by omega)
        have h1 : (nextI s skip i (decR s i).1).1.toList.length ≤ 1 := by cases (nextI s skip i (decR s i).1).1 <;> simp
        omega
    · rw [allI_end hi]; simp
theorem fromT_ok : ∀ {L : List Tk}, (∀ t ∈ L, ¬ t.n < 0) → fromT L = .ok L
  | [], _ => rfl
  | t :: L, h => by
    have h1 : fromT L = .ok L := fromT_ok fun u hu => h u (List.mem_cons_of_mem _ hu)
    simp only [fromT,if_neg (h t List.mem_cons_self),h1,Res.cons]
theorem fromT_bad : ∀ {L : List Tk} {k : Nat} {t : Tk}, L[k]? = some t → t.n < 0 → (∀ u ∈ L.take k, ¬ u.n < 0) → fromT L = .bad t.at'.toNat
  | [], k, t, h, _, _ => by simp at h
  | u :: L, 0, t, h, hn, _ => by
    simp at h; subst h
    simp [fromT, hn]
  | u :: L, k + 1, t, h, hn, ha => by
    simp only [List.getElem?_cons_succ] at h
    simp only [List.take_succ_cons,List.mem_cons,forall_eq_or_imp] at ha
    simp [fromT, if_neg ha.1, fromT_bad h hn ha.2, Res.cons]
theorem badI_le (s : List UInt8) : ∀ (m i : Nat), s.length - i ≤ m → ∀ e, badI s i = some e → e < s.length
  | m, i, hm, e, h => by
    by_cases hi : i < s.length
    · by_cases hz : sizeR s i = 0
      · rw [badI_bad hi hz] at h; cases h; exact hi
      · rw [badI_step hi hz] at h
        cases m with
        | zero => omega
        | succ m => exact badI_le s m _ (by omega) e h
    · rw [badI_end hi] at h; cases h
theorem text_split (s : List UInt8) : ∃ (e : Nat) (ok : Bool), textV (badI s 0) = .tup [vI (if ok then 0 else (e : Int)), .bool ok] ∧ e ≤ s.length ∧
      ofC s = (match fromT (allI (s.take e) 0 0) with | .ok l => if ok then .ok l else .bad e | .bad p => .bad p) ∧ (ok = true → e = s.length) := by
  unfold ofC
  cases h : badI s 0 with
  | none =>
    refine ⟨s.length, true, rfl, Nat.le_refl _, ?_, fun _ => rfl⟩
    rw [List.take_length]
    simp only [if_true]
    cases fromT (allI s 0 0) <;> rfl
  | some e =>
    have := badI_le s s.length 0 (by omega) e h
    exact ⟨e, false, rfl, by omega, rfl, by simp⟩
theorem encT_cells (t : Tk) : (encT t).cells = [vI t.kind, .int .i32 t.sign, vI t.n, vI t.at'] := rfl
theorem encT_stays (t : Tk) : (encT t).stays = true := rfl
theorem encT_agg (t : Tk) : V.agg [vI t.kind, .int .i32 t.sign, vI t.n, vI t.at'] = encT t := rfl
set_option maxRecDepth 100000 in
theorem of_c (s : List UInt8) (hs : s.length ≤ 1000000) : PFun Tryz.prog 12 [.str s] (resT (ofC s)) := fun σ => by
  refine Contract.of_runs Tryz.func12 e12 k12 (by simp [c12]) ?_
  refine Runs.mix 8 ?_
  (refine Runs.of_step Orc.nothing 300 ?_; simp -implicitDefEqProofs only [BB,seval,← decide_not,okind,vpre,vpure,intBin,intPre,strBin,strPre,popTo,argSlots,fldV,fldAV,subCells,idxVV,idxAAV,idxSV,sliceV,sliceSV,boundV,szIs,storeOp,storeS,setRowV,eff,extV,buildV,splice,eqSV,fitsL,eqCells,eqCell,minmaxV,capV,binBV,nilCheckV,bytesV,V.cells,V.stays,Orc.nothing,c12])
  refine effR_new fun id2 σ1 s1 a2 f2 => ?_
  simp -implicitDefEqProofs only [BB,seval,← decide_not,okind,vpre,vpure,intBin,intPre,strBin,strPre,popTo,argSlots,fldV,fldAV,subCells,idxVV,idxAAV,idxSV,sliceV,sliceSV,boundV,szIs,storeOp,storeS,setRowV,eff,extV,buildV,splice,eqSV,fitsL,eqCells,eqCell,minmaxV,capV,binBV,nilCheckV,bytesV,V.cells,V.stays]
  refine effR_new fun id3 σ2 s2 a3 f3 => ?_
  simp -implicitDefEqProofs only [BB,seval,← decide_not,okind,vpre,vpure,intBin,intPre,strBin,strPre,popTo,argSlots,fldV,fldAV,subCells,idxVV,idxAAV,idxSV,sliceV,sliceSV,boundV,szIs,storeOp,storeS,setRowV,eff,extV,buildV,splice,eqSV,fitsL,eqCells,eqCell,minmaxV,capV,binBV,nilCheckV,bytesV,V.cells,V.stays]
  refine effR_new fun id4 σ3 s3 a4 f4 => ?_
  have n23 : id2 ≠ id3 := ne_new a2 f3
  have n24 : id2 ≠ id4 := ne_new (s2 _ _ a2) f4
  have n34 : id3 ≠ id4 := ne_new a3 f4
  have g2 := s3 _ _ (s2 _ _ a2)
  have g3 := s3 _ _ a3
  have hsσ : SubStore σ σ3 := (s1.trans s2).trans s3
  have z3 : σ id3 = none := s1.none f3
  have z4 : σ id4 = none := (s1.trans s2).none f4
  simp -implicitDefEqProofs only [BB,seval,← decide_not,okind,vpre,vpure,intBin,intPre,strBin,strPre,popTo,argSlots,fldV,fldAV,subCells,idxVV,idxAAV,idxSV,sliceV,sliceSV,boundV,szIs,storeOp,storeS,setRowV,eff,extV,buildV,splice,eqSV,fitsL,eqCells,eqCell,minmaxV,capV,binBV,nilCheckV,bytesV,V.cells,V.stays]
  refine Runs.pcall rfl rfl rfl (text_c s (by omega) _) ?_
  obtain ⟨e, ok, ht, hel, hw, hoe⟩ := text_split s
  rw [ht]
  have hsl : sliceSV (.str s) none (some (vI e)) = some (.str (s.take e)) := by
    simp only [sliceSV,boundV]
    rw [if_pos (by omega)]
    simp
  have hwl : (s.take e).length ≤ 1000000 := by simp; omega
  generalize hR : ofC s = R at *
  generalize s.take e = w at *
  have hit := all_iter w hwl
  generalize hL : allI w 0 0 = L at *
  have hLl : L.length ≤ 1000000 := by rw [← hL]; have := allI_len w w.length 0 0 (by omega); omega
  have hLa : ∀ t ∈ L, 0 ≤ t.at' := by rw [← hL]; exact allI_at w w.length 0 0 (by omega)
  clear hel
  -- the rows
  generalize hK : (fun i => if i = id2 ∨ i = id3 ∨ i = id4 then some (⟨0, 0, []⟩ : Ob) else σ i : Store) = K
  have hK0 : ∀ i, K i = none ↔ (i ≠ id2 ∧ i ≠ id3 ∧ i ≠ id4 ∧ σ i = none) := fun i => by
    rw [← hK]
    simp only
    split
    · rename_i h; simp; intro h1 h2 h3; simp_all
    · rename_i h; simp only [not_or] at h; simp [h]
  have hKσ : SubStore σ K := fun i o h => by
    rw [← hK]
    have h2 : i ≠ id2 := fun e' => by subst e'; rw [h] at f2; cases f2
    have h3 : i ≠ id3 := fun e' => by subst e'; rw [h] at z3; cases z3
    have h4 : i ≠ id4 := fun e' => by subst e'; rw [h] at z4; cases z4
    simp only [h2,h3,h4,or_self,if_false]
    exact h
  have hJ0 : JOf σ K id2 id3 id4 .nils (vI 0) (vI 0) [] σ3 := ⟨g2, g3, a4, hsσ, OutV.start⟩
  clear hK
  -- the loop
  cases ok
  · (refine Runs.of_step Orc.nothing 300 ?_; simp -implicitDefEqProofs only [BB,seval,effR_some,effD_some,← decide_not,okind,vpre,vpure,intBin,intPre,strBin,strPre,popTo,argSlots,fldV,fldAV,subCells,idxVV,idxAAV,idxSV,sliceV,boundV,szIs,storeOp,storeS,setRowV,eff,extV,buildV,splice,eqSV,fitsL,eqCells,eqCell,minmaxV,capV,binBV,nilCheckV,bytesV,V.cells,V.stays,Orc.nothing,hsl])
    refine Runs.pcall rfl rfl rfl (all_c w _) ?_
    (refine Runs.of_step Orc.nothing 300 ?_; simp -implicitDefEqProofs only [BB,seval,effR_some,effD_some,← decide_not,okind,vpre,vpure,intBin,intPre,strBin,strPre,popTo,argSlots,fldV,fldAV,subCells,idxVV,idxAAV,idxSV,sliceV,sliceSV,boundV,szIs,storeOp,storeS,setRowV,eff,extV,buildV,splice,eqSV,fitsL,eqCells,eqCell,minmaxV,capV,binBV,nilCheckV,bytesV,V.cells,V.stays,Orc.nothing])
    generalize hS : mix 8 _ _ = S
    have S2 : S 2 = .ptr id2 0 0 := by rw [← hS]; rfl
    have S3 : S 3 = .ptr id3 0 0 := by rw [← hS]; rfl
    have S4 : S 4 = .ptr id4 0 0 := by rw [← hS]; rfl
    have S5 : S 5 = vI e := by rw [← hS]; exact rfl
    have S6 : S 6 = .bool false := by rw [← hS]; rfl
    have S19 : S 19 = .fn 45 [.rp (.str w)] := by rw [← hS]; rfl
    clear hS
    refine Runs.rangeF (g := .t 19) (caps := [.rp (.str w)]) S19 hit (fun x hx => ?_) [] (fun pre σJ => (∀ t ∈ L.take pre.length, ¬ t.n < 0) ∧ ∃ v, JOf σ K id2 id3 id4 v (vI 0) (vI 0) ((L.take pre.length).map encT) σJ)
      (fun _ _ σJ => ∃ k t, L[k]? = some t ∧ t.n < 0 ∧ (∀ u ∈ L.take k, ¬ u.n < 0) ∧ JOf σ K id2 id3 id4 .nils (vI t.at') (vI 1) [] σJ) ?_ ?_ ?_ ?_ ?_
    · obtain ⟨t, _, rfl⟩ := List.mem_map.1 hx; rfl
    · exact ⟨by simp, .nils, by simpa using hJ0⟩
    · rintro pre x post σJ σB hxs ⟨hpre, v, J⟩ hsub
      obtain ⟨t, hti, rfl⟩ : ∃ t, L[pre.length]? = some t ∧ x = [encT t] := by
        have := congrArg (·[pre.length]?) hxs
        simp only [List.getElem?_map,List.getElem?_append_right (Nat.le_refl _),Nat.sub_self,List.getElem?_cons_zero,Option.map_eq_some_iff] at this
        obtain ⟨t, h1, h2⟩ := this
        exact ⟨t, h1, h2.symm⟩
      have htk : L.take (pre.length + 1) = L.take pre.length ++ [t] := by rw [List.take_add_one, hti]; rfl
      have hlen : (pre ++ [[encT t]]).length = pre.length + 1 := by simp
      rw [hlen, htk]
      have hkl : ((L.take pre.length).map encT).length ≤ 1000000 := by simp; omega
      have hvc : v.cells = [v] := by rcases J.out with ⟨rfl, _⟩ | ⟨_, rfl, _⟩ <;> rfl
      generalize hrows : (L.take pre.length).map encT = rows at *
      have b2 := hsub _ _ J.r2
      have b3 := hsub _ _ J.r3
      have b4 := hsub _ _ J.r4
      generalize hSS : putL S [20] [encT t] = S0
      have T2 : S0 2 = .ptr id2 0 0 := by rw [← hSS]; exact S2
      have T3 : S0 3 = .ptr id3 0 0 := by rw [← hSS]; exact S3
      have T4 : S0 4 = .ptr id4 0 0 := by rw [← hSS]; exact S4
      have T20 : S0 20 = encT t := by rw [← hSS]; rfl
      refine Runs.mix 8 ?_
      (refine Runs.of_step Orc.nothing 300 ?_; simp -implicitDefEqProofs only [BB,seval,← decide_not,okind,vpre,vpure,intBin,intPre,strBin,strPre,popTo,argSlots,fldV,fldAV,subCells,idxVV,idxAAV,idxSV,sliceV,sliceSV,boundV,szIs,storeOp,storeS,setRowV,eff,extV,buildV,splice,eqSV,fitsL,eqCells,eqCell,minmaxV,capV,binBV,nilCheckV,bytesV,V.cells,V.stays,Orc.nothing,T2,T3,T4,T20])
      rw [effR_some]
      intro id7 f7
      have m2 : id2 ≠ id7 := ne_new b2 f7
      have m3 : id3 ≠ id7 := ne_new b3 f7
      have m4 : id4 ≠ id7 := ne_new b4 f7
      simp -implicitDefEqProofs only [BB,seval,← decide_not,okind,vpre,vpure,intBin,intPre,strBin,strPre,popTo,argSlots,fldV,fldAV,subCells,idxVV,idxAAV,idxSV,sliceV,sliceSV,boundV,szIs,storeOp,storeS,setRowV,eff,extV,buildV,splice,eqSV,fitsL,eqCells,eqCell,minmaxV,capV,binBV,nilCheckV,bytesV,V.cells_agg,V.cells_int,V.cells_nils,V.cells_own,V.cells_sl,V.cells_str,V.cells_bool,V.cells_fn,V.cells_ptr,V.cells_rp,V.stays_agg,V.stays_int,V.stays_nils,V.stays_own,V.stays_sl,V.stays_str,V.stays_bool,V.stays_fn,V.stays_ptr,V.stays_rp,T2,T3,T4,T20,encT_cells,encT_stays]
      by_cases hn : t.n < 0
      · have hn' : (t.n < 0) = True := by simp [hn]
        (refine Runs.of_step Orc.nothing 300 ?_; simp -implicitDefEqProofs only [BB,seval,← decide_not,okind,vpre,vpure,intBin,intPre,strBin,strPre,popTo,argSlots,fldV,fldAV,subCells,idxVV,idxAAV,idxSV,sliceV,sliceSV,boundV,szIs,storeOp,storeS,setRowV,eff,extV,buildV,splice,eqSV,fitsL,eqCells,eqCell,minmaxV,capV,binBV,nilCheckV,bytesV,Orc.nothing,V.cells_agg,V.cells_int,V.cells_nils,V.cells_own,V.cells_sl,V.cells_str,V.cells_bool,V.cells_fn,V.cells_ptr,V.cells_rp,V.stays_agg,V.stays_int,V.stays_nils,V.stays_own,V.stays_sl,V.stays_str,V.stays_bool,V.stays_fn,V.stays_ptr,V.stays_rp,encT_cells,encT_stays,T2,T3,T4,T20,hn',s_r_regA])
        refine Runs.regA (by kernel_rfl) ?_
        generalize hSX : mix 8 _ _ = SX
        have X2 : SX 2 = .ptr id2 0 0 := by rw [← hSX]; exact T2
        have X3 : SX 3 = .ptr id3 0 0 := by rw [← hSX]; exact T3
        have X4 : SX 4 = .ptr id4 0 0 := by rw [← hSX]; exact T4
        have X7 : SX 7 = .ptr id7 0 0 := by rw [← hSX]; rfl
        clear hSX
        generalize hσ7 : upd σB id7 ⟨44, 4, [encT t]⟩ = σ7
        have y2 : σ7 id2 = some ⟨34, 1, [v]⟩ := by rw [← hσ7, upd_ne m2]; exact b2
        have y3 : σ7 id3 = some ⟨3, 1, [vI 0]⟩ := by rw [← hσ7, upd_ne m3]; exact b3
        have y4 : σ7 id4 = some ⟨23, 1, [vI 0]⟩ := by rw [← hσ7, upd_ne m4]; exact b4
        have y7 : σ7 id7 = some ⟨44, 4, [encT t]⟩ := by rw [← hσ7, upd_same]
        have hB : Beside σJ σB σJ σ7 := by rw [← hσ7]; exact (Beside.refl hsub).new' f7
        clear hσ7
        have st0 : ∀ (Kt : St → Prop) (S : Nat → V) (σx : Store), S 7 = .ptr id7 0 0 → Kt ⟨putO S (some 24) (.ptr id7 0 3), σx⟩ → T Tryz.prog ⟨some 24, .fldA false 3 1 (.t 7), none⟩ ⟨S, σx⟩ Kt :=
          fun Kt S σx h hk => T.pure rfl rfl trivial (by simp [vpure, VX.ev, fldAV, h]) hk
        have st1 : ∀ (Kt : St → Prop) (S : Nat → V) (σx : Store), S 24 = .ptr id7 0 3 → σx id7 = some ⟨44, 4, [encT t]⟩ → Kt ⟨putO S (some 25) (vI t.at'), σx⟩ → T Tryz.prog ⟨some 25, .load false 1 (.t 24), none⟩ ⟨S, σx⟩ Kt :=
          fun Kt S σx h h2 hk => T.pure rfl rfl trivial (by simp [vpure, VX.ev, loadV, h, h2, encT_cells]) hk
        have fin : ∀ (S : Nat → V) (kk : List It), Runs Tryz.prog 34 (.code .ret :: kk) ⟨S, upd (upd (upd σ7 id2 ⟨34, 1, [.nils]⟩) id3 ⟨3, 1, [vI t.at']⟩) id4 ⟨23, 1, [vI 1]⟩⟩ (fun st2 =>
            ∃ σ2, Beside σJ σB σ2 st2.σ ∧ ∃ k t, L[k]? = some t ∧ t.n < 0 ∧ (∀ u ∈ L.take k, ¬ u.n < 0) ∧ JOf σ K id2 id3 id4 .nils (vI t.at') (vI 1) [] σ2) := fun S kk => Runs.ret ⟨_,
              ((hB.set (o' := ⟨34, 1, [.nils]⟩) J.r2).set (o' := ⟨3, 1, [vI t.at']⟩) (by rw [upd_ne n23.symm]; exact J.r3)).set (o' := ⟨23, 1, [vI 1]⟩) (by rw [upd_ne n34.symm, upd_ne n24.symm]; exact J.r4),
              pre.length, t, hti, hn, hpre, by rw [upd_ne n24, upd_ne n23, upd_same], by rw [upd_ne n34, upd_same], upd_same, ((J.sub.updK f2).updK z3).updK z4, OutV.start⟩
        have tail : ∀ (S : Nat → V) (kk : List It), S 3 = .ptr id3 0 0 → S 4 = .ptr id4 0 0 → S 25 = vI t.at' →
            T Tryz.prog ⟨none, .store 1 (.t 3) (.t 25), none⟩ ⟨S, upd σ7 id2 ⟨34, 1, [.nils]⟩⟩ (fun x => T Tryz.prog ⟨none, .store 1 (.t 4) (.c (.int .i64 1)), none⟩ x (fun x => ([] : List Nat) = [] ∧
              Runs Tryz.prog 34 (.code .ret :: kk) x (fun st2 => ∃ σ2, Beside σJ σB σ2 st2.σ ∧ ∃ k t, L[k]? = some t ∧ t.n < 0 ∧ (∀ u ∈ L.take k, ¬ u.n < 0) ∧ JOf σ K id2 id3 id4 .nils (vI t.at') (vI 1) [] σ2)) ∧ True) :=
          fun S kk h3 h4 h25 => T.cell h3 (by rw [upd_ne n23.symm]; exact y3) rfl h25 rfl rfl
            ⟨T.cell h4 (by rw [upd_ne n34.symm, upd_ne n24.symm]; exact y4) rfl rfl rfl rfl ⟨rfl, fin _ _⟩, trivial⟩
        have hv1 : v.cells.length = 1 := by rw [hvc]; rfl
        refine ⟨st0 _ _ _ X7 ⟨st1 _ _ _ rfl y7 ⟨T.cell (e := 34) X2 y2 hv1 rfl rfl rfl ⟨tail _ _ X3 X4 rfl, trivial⟩, trivial⟩, T.cell (e := 34) X2 y2 hv1 rfl rfl rfl ⟨st1 _ _ _ rfl (by rw [upd_ne m2.symm]; exact y7) ⟨tail _ _ X3 X4 rfl, trivial⟩, trivial⟩, trivial⟩,
          T.cell (e := 34) X2 y2 hv1 rfl rfl rfl ⟨st0 _ _ _ X7 ⟨st1 _ _ _ rfl (by rw [upd_ne m2.symm]; exact y7) ⟨tail _ _ X3 X4 rfl, trivial⟩, trivial⟩, trivial⟩, trivial⟩
      · have hn' : (t.n < 0) = False := by simp [hn]
        (refine Runs.of_step Orc.nothing 300 ?_; simp -implicitDefEqProofs only [BB,seval,← decide_not,okind,vpre,vpure,intBin,intPre,strBin,strPre,popTo,argSlots,fldV,fldAV,subCells,idxVV,idxAAV,idxSV,sliceV,sliceSV,boundV,szIs,storeOp,storeS,setRowV,eff,extV,buildV,splice,eqSV,fitsL,eqCells,eqCell,minmaxV,capV,binBV,nilCheckV,bytesV,Orc.nothing,V.cells_agg,V.cells_int,V.cells_nils,V.cells_own,V.cells_sl,V.cells_str,V.cells_bool,V.cells_fn,V.cells_ptr,V.cells_rp,V.stays_agg,V.stays_int,V.stays_nils,V.stays_own,V.stays_sl,V.stays_str,V.stays_bool,V.stays_fn,V.stays_ptr,V.stays_rp,encT_cells,encT_stays,encT_agg,hvc,T2,T3,T4,T20,hn',b2,upd_ne m2])
        rw [effR_some]
        intro id28 f28
        have hBs := ((Beside.refl hsub).new' (o := ⟨44, 4, [encT t]⟩) f7).new' (o := ⟨44, 4, [encT t]⟩) f28
        have f28' : (upd σB id7 ⟨44, 4, [encT t]⟩) id28 = none := f28
        have y2 : upd (upd σB id7 ⟨44, 4, [encT t]⟩) id28 ⟨44, 4, [encT t]⟩ id2 = some ⟨34, 1, [v]⟩ := by
          rw [upd_ne (fun e => by rw [← e, upd_ne m2, b2] at f28'; cases f28'), upd_ne m2]; exact b2
        have a28 : upd (upd σB id7 ⟨44, 4, [encT t]⟩) id28 ⟨44, 4, [encT t]⟩ id28 = some ⟨44, 4, [encT t]⟩ := upd_same
        generalize upd (upd σB id7 ⟨44, 4, [encT t]⟩) id28 ⟨44, 4, [encT t]⟩ = σ8 at *
        obtain ⟨idA, hda, hdA⟩ := J.out.dst' hBs.1
        have hb2 : (rows.length + 1) * 33 ≤ 140737488355328 := by omega
        have k2 : K id2 ≠ none := fun h => ((hK0 id2).1 h).1 rfl
        have k3 : K id3 ≠ none := fun h => ((hK0 id3).1 h).2.1 rfl
        have k4 : K id4 ≠ none := fun h => ((hK0 id4).1 h).2.2.1 rfl
        have dne : ∀ (i : Nat) (σx : Store), K i ≠ none → Vc.delO σx idA i = σx i := fun i σx hk => by
          cases idA with
          | none => rfl
          | some a => exact del_ne (fun e => hk (by rw [e]; exact (hdA a rfl).1))
        simp -implicitDefEqProofs only [BB,seval,← decide_not,okind,vpre,vpure,intBin,intPre,strBin,strPre,popTo,argSlots,fldV,fldAV,subCells,idxVV,idxAAV,idxSV,sliceV,sliceSV,boundV,szIs,storeOp,storeS,setRowV,eff,extV,buildV,splice,eqSV,fitsL,eqCells,eqCell,minmaxV,capV,binBV,nilCheckV,bytesV,V.cells_agg,V.cells_int,V.cells_nils,V.cells_own,V.cells_sl,V.cells_str,V.cells_bool,V.cells_fn,V.cells_ptr,V.cells_rp,V.stays_agg,V.stays_int,V.stays_nils,V.stays_own,V.stays_sl,V.stays_str,V.stays_bool,V.stays_fn,V.stays_ptr,V.stays_rp,encT_cells,encT_stays,hda,srcOne a28,hb2,T2,T3,T4]
        rw [effR_some]
        intro id29 f29
        have f29 : σ8 id29 = none := f29
        have m29 : id2 ≠ id29 := ne_new y2 f29
        have f29' : Vc.delO σ8 idA id29 = none := by
          cases idA with
          | none => exact f29
          | some a => simp only [Vc.delO,del]; split <;> first | rfl | exact f29
        have y2' : upd (Vc.delO σ8 idA) id29 ⟨44, 4, rows ++ [encT t]⟩ id2 = some ⟨34, 1, [v]⟩ := by rw [upd_ne m29, dne _ _ k2]; exact y2
        have hB9 := ((hBs.delO (e := idA) fun i h => (hdA i h).2).new (o := ⟨44, 4, rows ++ [encT t]⟩) f29').set (id := id2) (o := ⟨34, 1, [v]⟩) (o' := ⟨34, 1, [.own id29 0 (rows.length + 1)]⟩) (by rw [upd_ne m29, dne _ _ k2]; exact J.r2)
        simp -implicitDefEqProofs only [BB,seval,← decide_not,okind,vpre,vpure,intBin,intPre,strBin,strPre,popTo,argSlots,fldV,fldAV,subCells,idxVV,idxAAV,idxSV,sliceV,sliceSV,boundV,szIs,storeOp,storeS,setRowV,eff,extV,buildV,splice,eqSV,fitsL,eqCells,eqCell,minmaxV,capV,binBV,nilCheckV,bytesV,V.cells_agg,V.cells_int,V.cells_nils,V.cells_own,V.cells_sl,V.cells_str,V.cells_bool,V.cells_fn,V.cells_ptr,V.cells_rp,V.stays_agg,V.stays_int,V.stays_nils,V.stays_own,V.stays_sl,V.stays_str,V.stays_bool,V.stays_fn,V.stays_ptr,V.stays_rp,hvc,y2',T2,T3,T4]
        refine ⟨_, hB9, ?_, .own id29 0 (rows.length + 1), ⟨upd_same, ?_, ?_, ?_, ?_⟩⟩
        · intro u hu
          rcases List.mem_append.1 hu with hu | hu
          · exact hpre u hu
          · simp only [List.mem_singleton] at hu; subst hu; exact hn
        · rw [upd_ne n23.symm, upd_ne (ne_new (hBs.1 _ _ J.r3) f29), dne _ _ k3]; exact J.r3
        · rw [upd_ne n24.symm, upd_ne (ne_new (hBs.1 _ _ J.r4) f29), dne _ _ k4]; exact J.r4
        · refine SubStore.updK (fun i o h => ?_) f2
          have h1 := J.sub _ _ h
          rw [upd_ne (ne_new (hBs.1 _ _ h1) f29), dne _ _ (fun hk => by rw [((hK0 i).1 hk).2.2.2] at h; cases h)]
          exact h1
        · rw [List.map_append, hrows]
          refine OutV.new (by simp) (by rw [upd_ne m29.symm, upd_same]; rfl) ?_
          rw [hK0]
          refine ⟨m29.symm, (ne_new (hBs.1 _ _ J.r3) f29).symm, (ne_new (hBs.1 _ _ J.r4) f29).symm, ?_⟩
          cases h : σ id29 with
          | none => rfl
          | some o => rw [hBs.1 _ _ (J.sub _ _ h)] at f29; cases f29
    · rintro σ' ⟨hall, v, J⟩
      rw [List.length_map, List.take_length] at hall J
      have hfr := fromT_ok hall
      rw [hfr] at hw
      have hvc : v.cells = [v] := by rcases J.out with ⟨rfl, _⟩ | ⟨_, rfl, _⟩ <;> rfl
      have hvs : v.stays = true := by rcases J.out with ⟨rfl, _⟩ | ⟨_, rfl, _⟩ <;> rfl
      have o2 := J.r2
      have o3 := J.r3
      have o4 := J.r4
      refine Runs.mix 8 ?_
      (refine Runs.of_step Orc.nothing 300 ?_; simp -implicitDefEqProofs only [BB,seval,← decide_not,okind,vpre,vpure,intBin,intPre,strBin,strPre,popTo,argSlots,fldV,fldAV,subCells,idxVV,idxAAV,idxSV,sliceV,sliceSV,boundV,szIs,storeOp,storeS,setRowV,eff,extV,buildV,splice,eqSV,fitsL,eqCells,eqCell,minmaxV,capV,binBV,nilCheckV,bytesV,Orc.nothing,V.cells_agg,V.cells_int,V.cells_nils,V.cells_own,V.cells_sl,V.cells_str,V.cells_bool,V.cells_fn,V.cells_ptr,V.cells_rp,V.stays_agg,V.stays_int,V.stays_nils,V.stays_own,V.stays_sl,V.stays_str,V.stays_bool,V.stays_fn,V.stays_ptr,V.stays_rp,S2,S3,S4,S5,S6,o2,o3,o4,hvc,hvs,upd_ne n23,upd_ne n23.symm,upd_ne n24,upd_ne n24.symm,upd_ne n34,upd_ne n34.symm,Ret_cells])
      have hsub' : ∀ a b c : Ob, SubStore σ (upd (upd (upd σ' id2 a) id3 b) id4 c) := fun a b c => ((J.sub.updK f2).updK z3).updK z4
      refine ⟨_, σ, hsub' _ _ _, Wk.tup (vs' := [.sl 4 [], vI e, vI 1]) ⟨Wk.nils 4, Wk.refl (hsub' _ _ _) _, Wk.refl (hsub' _ _ _) _, trivial⟩, ?_, rfl⟩
      rw [hw]; rfl
    · intro id h; cases h
    · rintro pre σ' _ ⟨k, t, h1, h2, h3, J⟩
      rw [fromT_bad h1 h2 h3] at hw
      have hat := hLa t (List.mem_of_getElem? h1)
      refine Runs.ret ?_
      rw [Ret_cells]
      have o2 := J.r2
      have o3 := J.r3
      have o4 := J.r4
      simp only [S2,S3,S4,loadV,o2,o3,o4]
      refine ⟨_, σ, J.sub, Wk.tup (vs' := [.sl 4 [], vI t.at', vI 1]) ⟨Wk.nils 4, Wk.refl J.sub _, Wk.refl J.sub _, trivial⟩, ?_, rfl⟩
      rw [hw]
      show _ = V.tup [.sl 4 [], vI (t.at'.toNat : Int), vI 1]
      rw [Int.toNat_of_nonneg hat]
  · have he := hoe rfl
    rw [he] at hsl
    (refine Runs.of_step Orc.nothing 300 ?_; simp -implicitDefEqProofs only [BB,seval,effR_some,effD_some,← decide_not,okind,vpre,vpure,intBin,intPre,strBin,strPre,popTo,argSlots,fldV,fldAV,subCells,idxVV,idxAAV,idxSV,sliceV,boundV,szIs,storeOp,storeS,setRowV,eff,extV,buildV,splice,eqSV,fitsL,eqCells,eqCell,minmaxV,capV,binBV,nilCheckV,bytesV,V.cells,V.stays,Orc.nothing,hsl])
    refine Runs.pcall rfl rfl rfl (all_c w _) ?_
    (refine Runs.of_step Orc.nothing 300 ?_; simp -implicitDefEqProofs only [BB,seval,effR_some,effD_some,← decide_not,okind,vpre,vpure,intBin,intPre,strBin,strPre,popTo,argSlots,fldV,fldAV,subCells,idxVV,idxAAV,idxSV,sliceV,sliceSV,boundV,szIs,storeOp,storeS,setRowV,eff,extV,buildV,splice,eqSV,fitsL,eqCells,eqCell,minmaxV,capV,binBV,nilCheckV,bytesV,V.cells,V.stays,Orc.nothing])
    generalize hS : mix 8 _ _ = S
    have S2 : S 2 = .ptr id2 0 0 := by rw [← hS]; rfl
    have S3 : S 3 = .ptr id3 0 0 := by rw [← hS]; rfl
    have S4 : S 4 = .ptr id4 0 0 := by rw [← hS]; rfl
    have S5 : S 5 = vI e := by rw [← hS, he]; rfl
    have S6 : S 6 = .bool true := by rw [← hS]; rfl
    have S19 : S 19 = .fn 45 [.rp (.str w)] := by rw [← hS]; rfl
    clear hS
    refine Runs.rangeF (g := .t 19) (caps := [.rp (.str w)]) S19 hit (fun x hx => ?_) [] (fun pre σJ => (∀ t ∈ L.take pre.length, ¬ t.n < 0) ∧ ∃ v, JOf σ K id2 id3 id4 v (vI 0) (vI 0) ((L.take pre.length).map encT) σJ)
      (fun _ _ σJ => ∃ k t, L[k]? = some t ∧ t.n < 0 ∧ (∀ u ∈ L.take k, ¬ u.n < 0) ∧ JOf σ K id2 id3 id4 .nils (vI t.at') (vI 1) [] σJ) ?_ ?_ ?_ ?_ ?_
    · obtain ⟨t, _, rfl⟩ := List.mem_map.1 hx; rfl
    · exact ⟨by simp, .nils, by simpa using hJ0⟩
    · rintro pre x post σJ σB hxs ⟨hpre, v, J⟩ hsub
      obtain ⟨t, hti, rfl⟩ : ∃ t, L[pre.length]? = some t ∧ x = [encT t] := by
        have := congrArg (·[pre.length]?) hxs
        simp only [List.getElem?_map,List.getElem?_append_right (Nat.le_refl _),Nat.sub_self,List.getElem?_cons_zero,Option.map_eq_some_iff] at this
        obtain ⟨t, h1, h2⟩ := this
        exact ⟨t, h1, h2.symm⟩
      have htk : L.take (pre.length + 1) = L.take pre.length ++ [t] := by rw [List.take_add_one, hti]; rfl
      have hlen : (pre ++ [[encT t]]).length = pre.length + 1 := by simp
      rw [hlen, htk]
      have hkl : ((L.take pre.length).map encT).length ≤ 1000000 := by simp; omega
      have hvc : v.cells = [v] := by rcases J.out with ⟨rfl, _⟩ | ⟨_, rfl, _⟩ <;> rfl
      generalize hrows : (L.take pre.length).map encT = rows at *
      have b2 := hsub _ _ J.r2
      have b3 := hsub _ _ J.r3
      have b4 := hsub _ _ J.r4
      generalize hSS : putL S [20] [encT t] = S0
      have T2 : S0 2 = .ptr id2 0 0 := by rw [← hSS]; exact S2
      have T3 : S0 3 = .ptr id3 0 0 := by rw [← hSS]; exact S3
      have T4 : S0 4 = .ptr id4 0 0 := by rw [← hSS]; exact S4
      have T20 : S0 20 = encT t := by rw [← hSS]; rfl
      refine Runs.mix 8 ?_
      (refine Runs.of_step Orc.nothing 300 ?_; simp -implicitDefEqProofs only [BB,seval,← decide_not,okind,vpre,vpure,intBin,intPre,strBin,strPre,popTo,argSlots,fldV,fldAV,subCells,idxVV,idxAAV,idxSV,sliceV,sliceSV,boundV,szIs,storeOp,storeS,setRowV,eff,extV,buildV,splice,eqSV,fitsL,eqCells,eqCell,minmaxV,capV,binBV,nilCheckV,bytesV,V.cells,V.stays,Orc.nothing,T2,T3,T4,T20])
      rw [effR_some]
      intro id7 f7
      have m2 : id2 ≠ id7 := ne_new b2 f7
      have m3 : id3 ≠ id7 := ne_new b3 f7
      have m4 : id4 ≠ id7 := ne_new b4 f7
      simp -implicitDefEqProofs only [BB,seval,← decide_not,okind,vpre,vpure,intBin,intPre,strBin,strPre,popTo,argSlots,fldV,fldAV,subCells,idxVV,idxAAV,idxSV,sliceV,sliceSV,boundV,szIs,storeOp,storeS,setRowV,eff,extV,buildV,splice,eqSV,fitsL,eqCells,eqCell,minmaxV,capV,binBV,nilCheckV,bytesV,V.cells_agg,V.cells_int,V.cells_nils,V.cells_own,V.cells_sl,V.cells_str,V.cells_bool,V.cells_fn,V.cells_ptr,V.cells_rp,V.stays_agg,V.stays_int,V.stays_nils,V.stays_own,V.stays_sl,V.stays_str,V.stays_bool,V.stays_fn,V.stays_ptr,V.stays_rp,T2,T3,T4,T20,encT_cells,encT_stays]
      by_cases hn : t.n < 0
      · have hn' : (t.n < 0) = True := by simp [hn]
        (refine Runs.of_step Orc.nothing 300 ?_; simp -implicitDefEqProofs only [BB,seval,← decide_not,okind,vpre,vpure,intBin,intPre,strBin,strPre,popTo,argSlots,fldV,fldAV,subCells,idxVV,idxAAV,idxSV,sliceV,sliceSV,boundV,szIs,storeOp,storeS,setRowV,eff,extV,buildV,splice,eqSV,fitsL,eqCells,eqCell,minmaxV,capV,binBV,nilCheckV,bytesV,Orc.nothing,V.cells_agg,V.cells_int,V.cells_nils,V.cells_own,V.cells_sl,V.cells_str,V.cells_bool,V.cells_fn,V.cells_ptr,V.cells_rp,V.stays_agg,V.stays_int,V.stays_nils,V.stays_own,V.stays_sl,V.stays_str,V.stays_bool,V.stays_fn,V.stays_ptr,V.stays_rp,encT_cells,encT_stays,T2,T3,T4,T20,hn',s_r_regA])
        refine Runs.regA (by kernel_rfl) ?_
        generalize hSX : mix 8 _ _ = SX
        have X2 : SX 2 = .ptr id2 0 0 := by rw [← hSX]; exact T2
        have X3 : SX 3 = .ptr id3 0 0 := by rw [← hSX]; exact T3
        have X4 : SX 4 = .ptr id4 0 0 := by rw [← hSX]; exact T4
        have X7 : SX 7 = .ptr id7 0 0 := by rw [← hSX]; rfl
        clear hSX
        generalize hσ7 : upd σB id7 ⟨44, 4, [encT t]⟩ = σ7
        have y2 : σ7 id2 = some ⟨34, 1, [v]⟩ := by rw [← hσ7, upd_ne m2]; exact b2
        have y3 : σ7 id3 = some ⟨3, 1, [vI 0]⟩ := by rw [← hσ7, upd_ne m3]; exact b3
        have y4 : σ7 id4 = some ⟨23, 1, [vI 0]⟩ := by rw [← hσ7, upd_ne m4]; exact b4
        have y7 : σ7 id7 = some ⟨44, 4, [encT t]⟩ := by rw [← hσ7, upd_same]
        have hB : Beside σJ σB σJ σ7 := by rw [← hσ7]; exact (Beside.refl hsub).new' f7
        clear hσ7
        have st0 : ∀ (Kt : St → Prop) (S : Nat → V) (σx : Store), S 7 = .ptr id7 0 0 → Kt ⟨putO S (some 24) (.ptr id7 0 3), σx⟩ → T Tryz.prog ⟨some 24, .fldA false 3 1 (.t 7), none⟩ ⟨S, σx⟩ Kt :=
          fun Kt S σx h hk => T.pure rfl rfl trivial (by simp [vpure, VX.ev, fldAV, h]) hk
        have st1 : ∀ (Kt : St → Prop) (S : Nat → V) (σx : Store), S 24 = .ptr id7 0 3 → σx id7 = some ⟨44, 4, [encT t]⟩ → Kt ⟨putO S (some 25) (vI t.at'), σx⟩ → T Tryz.prog ⟨some 25, .load false 1 (.t 24), none⟩ ⟨S, σx⟩ Kt :=
          fun Kt S σx h h2 hk => T.pure rfl rfl trivial (by simp [vpure, VX.ev, loadV, h, h2, encT_cells]) hk
        have fin : ∀ (S : Nat → V) (kk : List It), Runs Tryz.prog 34 (.code .ret :: kk) ⟨S, upd (upd (upd σ7 id2 ⟨34, 1, [.nils]⟩) id3 ⟨3, 1, [vI t.at']⟩) id4 ⟨23, 1, [vI 1]⟩⟩ (fun st2 =>
            ∃ σ2, Beside σJ σB σ2 st2.σ ∧ ∃ k t, L[k]? = some t ∧ t.n < 0 ∧ (∀ u ∈ L.take k, ¬ u.n < 0) ∧ JOf σ K id2 id3 id4 .nils (vI t.at') (vI 1) [] σ2) := fun S kk => Runs.ret ⟨_,
              ((hB.set (o' := ⟨34, 1, [.nils]⟩) J.r2).set (o' := ⟨3, 1, [vI t.at']⟩) (by rw [upd_ne n23.symm]; exact J.r3)).set (o' := ⟨23, 1, [vI 1]⟩) (by rw [upd_ne n34.symm, upd_ne n24.symm]; exact J.r4),
              pre.length, t, hti, hn, hpre, by rw [upd_ne n24, upd_ne n23, upd_same], by rw [upd_ne n34, upd_same], upd_same, ((J.sub.updK f2).updK z3).updK z4, OutV.start⟩
        have tail : ∀ (S : Nat → V) (kk : List It), S 3 = .ptr id3 0 0 → S 4 = .ptr id4 0 0 → S 25 = vI t.at' →
            T Tryz.prog ⟨none, .store 1 (.t 3) (.t 25), none⟩ ⟨S, upd σ7 id2 ⟨34, 1, [.nils]⟩⟩ (fun x => T Tryz.prog ⟨none, .store 1 (.t 4) (.c (.int .i64 1)), none⟩ x (fun x => ([] : List Nat) = [] ∧
              Runs Tryz.prog 34 (.code .ret :: kk) x (fun st2 => ∃ σ2, Beside σJ σB σ2 st2.σ ∧ ∃ k t, L[k]? = some t ∧ t.n < 0 ∧ (∀ u ∈ L.take k, ¬ u.n < 0) ∧ JOf σ K id2 id3 id4 .nils (vI t.at') (vI 1) [] σ2)) ∧ True) :=
          fun S kk h3 h4 h25 => T.cell h3 (by rw [upd_ne n23.symm]; exact y3) rfl h25 rfl rfl
            ⟨T.cell h4 (by rw [upd_ne n34.symm, upd_ne n24.symm]; exact y4) rfl rfl rfl rfl ⟨rfl, fin _ _⟩, trivial⟩
        have hv1 : v.cells.length = 1 := by rw [hvc]; rfl
        refine ⟨st0 _ _ _ X7 ⟨st1 _ _ _ rfl y7 ⟨T.cell (e := 34) X2 y2 hv1 rfl rfl rfl ⟨tail _ _ X3 X4 rfl, trivial⟩, trivial⟩, T.cell (e := 34) X2 y2 hv1 rfl rfl rfl ⟨st1 _ _ _ rfl (by rw [upd_ne m2.symm]; exact y7) ⟨tail _ _ X3 X4 rfl, trivial⟩, trivial⟩, trivial⟩,
          T.cell (e := 34) X2 y2 hv1 rfl rfl rfl ⟨st0 _ _ _ X7 ⟨st1 _ _ _ rfl (by rw [upd_ne m2.symm]; exact y7) ⟨tail _ _ X3 X4 rfl, trivial⟩, trivial⟩, trivial⟩, trivial⟩
      · have hn' : (t.n < 0) = False := by simp [hn]
        (refine Runs.of_step Orc.nothing 300 ?_; simp -implicitDefEqProofs only [BB,seval,← decide_not,okind,vpre,vpure,intBin,intPre,strBin,strPre,popTo,argSlots,fldV,fldAV,subCells,idxVV,idxAAV,idxSV,sliceV,sliceSV,boundV,szIs,storeOp,storeS,setRowV,eff,extV,buildV,splice,eqSV,fitsL,eqCells,eqCell,minmaxV,capV,binBV,nilCheckV,bytesV,Orc.nothing,V.cells_agg,V.cells_int,V.cells_nils,V.cells_own,V.cells_sl,V.cells_str,V.cells_bool,V.cells_fn,V.cells_ptr,V.cells_rp,V.stays_agg,V.stays_int,V.stays_nils,V.stays_own,V.stays_sl,V.stays_str,V.stays_bool,V.stays_fn,V.stays_ptr,V.stays_rp,encT_cells,encT_stays,encT_agg,hvc,T2,T3,T4,T20,hn',b2,upd_ne m2])
        rw [effR_some]
        intro id28 f28
        have hBs := ((Beside.refl hsub).new' (o := ⟨44, 4, [encT t]⟩) f7).new' (o := ⟨44, 4, [encT t]⟩) f28
        have f28' : (upd σB id7 ⟨44, 4, [encT t]⟩) id28 = none := f28
        have y2 : upd (upd σB id7 ⟨44, 4, [encT t]⟩) id28 ⟨44, 4, [encT t]⟩ id2 = some ⟨34, 1, [v]⟩ := by
          rw [upd_ne (fun e => by rw [← e, upd_ne m2, b2] at f28'; cases f28'), upd_ne m2]; exact b2
        have a28 : upd (upd σB id7 ⟨44, 4, [encT t]⟩) id28 ⟨44, 4, [encT t]⟩ id28 = some ⟨44, 4, [encT t]⟩ := upd_same
        generalize upd (upd σB id7 ⟨44, 4, [encT t]⟩) id28 ⟨44, 4, [encT t]⟩ = σ8 at *
        obtain ⟨idA, hda, hdA⟩ := J.out.dst' hBs.1
        have hb2 : (rows.length + 1) * 33 ≤ 140737488355328 := by omega
        have k2 : K id2 ≠ none := fun h => ((hK0 id2).1 h).1 rfl
        have k3 : K id3 ≠ none := fun h => ((hK0 id3).1 h).2.1 rfl
        have k4 : K id4 ≠ none := fun h => ((hK0 id4).1 h).2.2.1 rfl
        have dne : ∀ (i : Nat) (σx : Store), K i ≠ none → Vc.delO σx idA i = σx i := fun i σx hk => by
          cases idA with
          | none => rfl
          | some a => exact del_ne (fun e => hk (by rw [e]; exact (hdA a rfl).1))
        simp -implicitDefEqProofs only [BB,seval,← decide_not,okind,vpre,vpure,intBin,intPre,strBin,strPre,popTo,argSlots,fldV,fldAV,subCells,idxVV,idxAAV,idxSV,sliceV,sliceSV,boundV,szIs,storeOp,storeS,setRowV,eff,extV,buildV,splice,eqSV,fitsL,eqCells,eqCell,minmaxV,capV,binBV,nilCheckV,bytesV,V.cells_agg,V.cells_int,V.cells_nils,V.cells_own,V.cells_sl,V.cells_str,V.cells_bool,V.cells_fn,V.cells_ptr,V.cells_rp,V.stays_agg,V.stays_int,V.stays_nils,V.stays_own,V.stays_sl,V.stays_str,V.stays_bool,V.stays_fn,V.stays_ptr,V.stays_rp,encT_cells,encT_stays,hda,srcOne a28,hb2,T2,T3,T4]
        rw [effR_some]
        intro id29 f29
        have f29 : σ8 id29 = none := f29
        have m29 : id2 ≠ id29 := ne_new y2 f29
        have f29' : Vc.delO σ8 idA id29 = none := by
          cases idA with
          | none => exact f29
          | some a => simp only [Vc.delO,del]; split <;> first | rfl | exact f29
        have y2' : upd (Vc.delO σ8 idA) id29 ⟨44, 4, rows ++ [encT t]⟩ id2 = some ⟨34, 1, [v]⟩ := by rw [upd_ne m29, dne _ _ k2]; exact y2
        have hB9 := ((hBs.delO (e := idA) fun i h => (hdA i h).2).new (o := ⟨44, 4, rows ++ [encT t]⟩) f29').set (id := id2) (o := ⟨34, 1, [v]⟩) (o' := ⟨34, 1, [.own id29 0 (rows.length + 1)]⟩) (by rw [upd_ne m29, dne _ _ k2]; exact J.r2)
        simp -implicitDefEqProofs only [BB,seval,← decide_not,okind,vpre,vpure,intBin,intPre,strBin,strPre,popTo,argSlots,fldV,fldAV,subCells,idxVV,idxAAV,idxSV,sliceV,sliceSV,boundV,szIs,storeOp,storeS,setRowV,eff,extV,buildV,splice,eqSV,fitsL,eqCells,eqCell,minmaxV,capV,binBV,nilCheckV,bytesV,V.cells_agg,V.cells_int,V.cells_nils,V.cells_own,V.cells_sl,V.cells_str,V.cells_bool,V.cells_fn,V.cells_ptr,V.cells_rp,V.stays_agg,V.stays_int,V.stays_nils,V.stays_own,V.stays_sl,V.stays_str,V.stays_bool,V.stays_fn,V.stays_ptr,V.stays_rp,hvc,y2',T2,T3,T4]
        refine ⟨_, hB9, ?_, .own id29 0 (rows.length + 1), ⟨upd_same, ?_, ?_, ?_, ?_⟩⟩
        · intro u hu
          rcases List.mem_append.1 hu with hu | hu
          · exact hpre u hu
          · simp only [List.mem_singleton] at hu; subst hu; exact hn
        · rw [upd_ne n23.symm, upd_ne (ne_new (hBs.1 _ _ J.r3) f29), dne _ _ k3]; exact J.r3
        · rw [upd_ne n24.symm, upd_ne (ne_new (hBs.1 _ _ J.r4) f29), dne _ _ k4]; exact J.r4
        · refine SubStore.updK (fun i o h => ?_) f2
          have h1 := J.sub _ _ h
          rw [upd_ne (ne_new (hBs.1 _ _ h1) f29), dne _ _ (fun hk => by rw [((hK0 i).1 hk).2.2.2] at h; cases h)]
          exact h1
        · rw [List.map_append, hrows]
          refine OutV.new (by simp) (by rw [upd_ne m29.symm, upd_same]; rfl) ?_
          rw [hK0]
          refine ⟨m29.symm, (ne_new (hBs.1 _ _ J.r3) f29).symm, (ne_new (hBs.1 _ _ J.r4) f29).symm, ?_⟩
          cases h : σ id29 with
          | none => rfl
          | some o => rw [hBs.1 _ _ (J.sub _ _ h)] at f29; cases f29
    · rintro σ' ⟨hall, v, J⟩
      rw [List.length_map, List.take_length] at hall J
      have hfr := fromT_ok hall
      rw [hfr] at hw
      have hvc : v.cells = [v] := by rcases J.out with ⟨rfl, _⟩ | ⟨_, rfl, _⟩ <;> rfl
      have hvs : v.stays = true := by rcases J.out with ⟨rfl, _⟩ | ⟨_, rfl, _⟩ <;> rfl
      have o2 := J.r2
      have o3 := J.r3
      have o4 := J.r4
      refine Runs.mix 8 ?_
      (refine Runs.of_step Orc.nothing 300 ?_; simp -implicitDefEqProofs only [BB,seval,← decide_not,okind,vpre,vpure,intBin,intPre,strBin,strPre,popTo,argSlots,fldV,fldAV,subCells,idxVV,idxAAV,idxSV,sliceV,sliceSV,boundV,szIs,storeOp,storeS,setRowV,eff,extV,buildV,splice,eqSV,fitsL,eqCells,eqCell,minmaxV,capV,binBV,nilCheckV,bytesV,Orc.nothing,V.cells_agg,V.cells_int,V.cells_nils,V.cells_own,V.cells_sl,V.cells_str,V.cells_bool,V.cells_fn,V.cells_ptr,V.cells_rp,V.stays_agg,V.stays_int,V.stays_nils,V.stays_own,V.stays_sl,V.stays_str,V.stays_bool,V.stays_fn,V.stays_ptr,V.stays_rp,S2,S3,S4,S5,S6,o2,o3,o4,hvc,hvs,upd_ne n23,upd_ne n23.symm,upd_ne n24,upd_ne n24.symm,upd_ne n34,upd_ne n34.symm,Ret_cells])
      have hsub' : ∀ a b c : Ob, SubStore σ (upd (upd (upd σ' id2 a) id3 b) id4 c) := fun a b c => ((J.sub.updK f2).updK z3).updK z4
      refine ⟨_, σ, hsub' _ _ _, Wk.tup (vs' := [.sl 4 (L.map encT), vI 0, vI 0]) ⟨?_, Wk.refl (hsub' _ _ _) _, Wk.refl (hsub' _ _ _) _, trivial⟩, ?_, rfl⟩
      · have hout := J.out
        rcases hout with ⟨rfl, h0⟩ | ⟨id, rfl, h1, h2⟩
        · rw [h0]; exact Wk.nils 4
        · have hk := (hK0 id).1 h2
          have := Wk.own (hsub' ⟨34, 1, [.own id 0 (L.map encT).length]⟩ ⟨3, 1, [.int .i64 0]⟩ ⟨23, 1, [.int .i64 0]⟩) (ob := ⟨44, 4, L.map encT⟩) (id := id) (off := 0) (len := (L.map encT).length) (by rw [upd_ne hk.2.2.1, upd_ne hk.2.1, upd_ne hk.1]; exact h1) hk.2.2.2 (by simp)
          rw [List.drop_zero, List.take_length] at this
          exact this
      · rw [hw]; rfl
    · intro id h; cases h
    · rintro pre σ' _ ⟨k, t, h1, h2, h3, J⟩
      rw [fromT_bad h1 h2 h3] at hw
      have hat := hLa t (List.mem_of_getElem? h1)
      refine Runs.ret ?_
      rw [Ret_cells]
      have o2 := J.r2
      have o3 := J.r3
      have o4 := J.r4
      simp only [S2,S3,S4,loadV,o2,o3,o4]
      refine ⟨_, σ, J.sub, Wk.tup (vs' := [.sl 4 [], vI t.at', vI 1]) ⟨Wk.nils 4, Wk.refl J.sub _, Wk.refl J.sub _, trivial⟩, ?_, rfl⟩
      rw [hw]
      show _ = V.tup [.sl 4 [], vI (t.at'.toNat : Int), vI 1]
      rw [Int.toNat_of_nonneg hat]
end Go.Vc
namespace Go.Vc
theorem sizeR_4 (s : List UInt8) (i : Nat) : sizeR s i = if byt s i ≤ 127 then 1
    else if (194 ≤ byt s i ∧ byt s i ≤ 223) ∧ (128 ≤ byt s (i + 1) ∧ byt s (i + 1) ≤ 191) then 2
    else if (128 ≤ byt s (i + 1) ∧ byt s (i + 1) ≤ 191) ∧ (128 ≤ byt s (i + 2) ∧ byt s (i + 2) ≤ 191) ∧ (224 ≤ byt s i ∧ byt s i ≤ 239) ∧ (byt s i = 224 → 160 ≤ byt s (i + 1)) ∧ (byt s i = 237 → byt s (i + 1) ≤ 159) then 3
    else if (128 ≤ byt s (i + 1) ∧ byt s (i + 1) ≤ 191) ∧ (128 ≤ byt s (i + 2) ∧ byt s (i + 2) ≤ 191) ∧ (128 ≤ byt s (i + 3) ∧ byt s (i + 3) ≤ 191) ∧ (240 ≤ byt s i ∧ byt s i ≤ 244) ∧ (byt s i = 240 → 144 ≤ byt s (i + 1)) ∧ (byt s i = 244 → byt s (i + 1) ≤ 143) then 4
    else 0 := by
  have h1 : (inB s i 0 127 = true) ↔ byt s i ≤ 127 := by simp [inB]; omega
  have h2 : ((inB s i 194 223 && moreB s (i + 1) 1) = true) ↔ (194 ≤ byt s i ∧ byt s i ≤ 223) ∧ (128 ≤ byt s (i + 1) ∧ byt s (i + 1) ≤ 191) := by simp [inB, moreB]; omega
  have h3 : ((inB s i 224 224 && inB s (i + 1) 160 191 && moreB s (i + 2) 1) || (inB s i 225 236 && moreB s (i + 1) 2) || (inB s i 237 237 && inB s (i + 1) 128 159 && moreB s (i + 2) 1) || (inB s i 238 239 && moreB s (i + 1) 2)) = true ↔
      (128 ≤ byt s (i + 1) ∧ byt s (i + 1) ≤ 191) ∧ (128 ≤ byt s (i + 2) ∧ byt s (i + 2) ≤ 191) ∧ (224 ≤ byt s i ∧ byt s i ≤ 239) ∧ (byt s i = 224 → 160 ≤ byt s (i + 1)) ∧ (byt s i = 237 → byt s (i + 1) ≤ 159) := by
    simp [inB, moreB, Nat.add_assoc]; omega
  have h4 : ((inB s i 240 240 && inB s (i + 1) 144 191 && moreB s (i + 2) 2) || (inB s i 241 243 && moreB s (i + 1) 3) || (inB s i 244 244 && inB s (i + 1) 128 143 && moreB s (i + 2) 2)) = true ↔
      (128 ≤ byt s (i + 1) ∧ byt s (i + 1) ≤ 191) ∧ (128 ≤ byt s (i + 2) ∧ byt s (i + 2) ≤ 191) ∧ (128 ≤ byt s (i + 3) ∧ byt s (i + 3) ≤ 191) ∧ (240 ≤ byt s i ∧ byt s i ≤ 244) ∧ (byt s i = 240 → 144 ≤ byt s (i + 1)) ∧ (byt s i = 244 → byt s (i + 1) ≤ 143) := by
    simp [inB, moreB, Nat.add_assoc]; omega
  unfold sizeR
  simp only [h1,h2,h3,h4]
theorem byt_take (s : List UInt8) (e k : Nat) : byt (s.take e) k = if k < e then byt s k else 256 := by
  unfold byt
  rw [List.getElem?_take]
  by_cases h : k < e <;> simp [h]
def q2 (b0 b1 : Nat) : Prop := (194 ≤ b0 ∧ b0 ≤ 223) ∧ (128 ≤ b1 ∧ b1 ≤ 191)
def q3 (b0 b1 b2 : Nat) : Prop := (128 ≤ b1 ∧ b1 ≤ 191) ∧ (128 ≤ b2 ∧ b2 ≤ 191) ∧ (224 ≤ b0 ∧ b0 ≤ 239) ∧ (b0 = 224 → 160 ≤ b1) ∧ (b0 = 237 → b1 ≤ 159)
def q4 (b0 b1 b2 b3 : Nat) : Prop := (128 ≤ b1 ∧ b1 ≤ 191) ∧ (128 ≤ b2 ∧ b2 ≤ 191) ∧ (128 ≤ b3 ∧ b3 ≤ 191) ∧ (240 ≤ b0 ∧ b0 ≤ 244) ∧ (b0 = 240 → 144 ≤ b1) ∧ (b0 = 244 → b1 ≤ 143)
theorem sizeR_is (s : List UInt8) (i : Nat) : (sizeR s i = 1 ∧ byt s i ≤ 127) ∨ (sizeR s i = 2 ∧ q2 (byt s i) (byt s (i + 1))) ∨ (sizeR s i = 3 ∧ q3 (byt s i) (byt s (i + 1)) (byt s (i + 2))) ∨
    (sizeR s i = 4 ∧ q4 (byt s i) (byt s (i + 1)) (byt s (i + 2)) (byt s (i + 3))) ∨
    (sizeR s i = 0 ∧ ¬ byt s i ≤ 127 ∧ ¬ q2 (byt s i) (byt s (i + 1)) ∧ ¬ q3 (byt s i) (byt s (i + 1)) (byt s (i + 2)) ∧ ¬ q4 (byt s i) (byt s (i + 1)) (byt s (i + 2)) (byt s (i + 3))) := by
  have h := sizeR_4 s i
  unfold q2 q3 q4
  split at h
  · rename_i g; exact .inl ⟨h, g⟩
  · rename_i g1
    split at h
    · rename_i g; exact .inr (.inl ⟨h, g⟩)
    · rename_i g2
      split at h
      · rename_i g; exact .inr (.inr (.inl ⟨h, g⟩))
      · rename_i g3
        split at h
        · rename_i g; exact .inr (.inr (.inr (.inl ⟨h, g⟩)))
        · rename_i g4; exact .inr (.inr (.inr (.inr ⟨h, g1, g2, g3, g4⟩)))
theorem sizeR_take {s : List UInt8} {e i : Nat} (hz : sizeR s i ≠ 0) (h : i + sizeR s i ≤ e) : sizeR (s.take e) i = sizeR s i := by
  have g : ∀ k, i + k < e → byt (s.take e) (i + k) = byt s (i + k) := fun k hk => by rw [byt_take, if_pos hk]
  rcases sizeR_is s i with q | q | q | q | q
  · have g0 := g 0 (by omega)
    rw [q.1]
    exact sizeR_ascii (by rw [Nat.add_zero] at g0; rw [g0]; exact q.2)
  · have g0 := g 0 (by omega)
    have g1 := g 1 (by omega)
    rw [Nat.add_zero] at g0
    have p := sizeR_is (s.take e) i
    simp only [g0,g1,q2,q3,q4] at p q
    omega
  · have g0 := g 0 (by omega)
    have g1 := g 1 (by omega)
    have g2 := g 2 (by omega)
    rw [Nat.add_zero] at g0
    have p := sizeR_is (s.take e) i
    simp only [g0,g1,g2,q2,q3,q4] at p q
    omega
  · have g0 := g 0 (by omega)
    have g1 := g 1 (by omega)
    have g2 := g 2 (by omega)
    have g3 := g 3 (by omega)
    rw [Nat.add_zero] at g0
    have p := sizeR_is (s.take e) i
    simp only [g0,g1,g2,g3,q2,q3,q4] at p q
    omega
  · exact absurd q.1 hz
theorem runeR_take {s : List UInt8} {e i : Nat} (h : i + sizeR s i ≤ e) : runeR (s.take e) i (sizeR s i) = runeR s i (sizeR s i) := by
  have g : ∀ k, i + k < e → byt (s.take e) (i + k) = byt s (i + k) := fun k hk => by rw [byt_take, if_pos hk]
  rcases sizeR_cases s i with q | q | q | q | q
  · rw [q]; rfl
  · rw [q.1] at h ⊢
    exact g 0 (by omega)
  · rw [q.1] at h ⊢
    show 64 * (byt (s.take e) (i + 0) - 192) + byt (s.take e) (i + 1) - 128 = _
    rw [g 0 (by omega), g 1 (by omega)]; rfl
  · rw [q.1] at h ⊢
    show 64 * (64 * (byt (s.take e) (i + 0) - 224) + byt (s.take e) (i + 1) - 128) + byt (s.take e) (i + 2) - 128 = _
    rw [g 0 (by omega), g 1 (by omega), g 2 (by omega)]; rfl
  · rw [q.1] at h ⊢
    show 64 * (64 * (64 * (byt (s.take e) (i + 0) - 240) + byt (s.take e) (i + 1) - 128) + byt (s.take e) (i + 2) - 128) + byt (s.take e) (i + 3) - 128 = _
    rw [g 0 (by omega), g 1 (by omega), g 2 (by omega), g 3 (by omega)]; rfl
theorem badI_ge (s : List UInt8) : ∀ (m i : Nat), s.length - i ≤ m → ∀ e, badI s i = some e → i ≤ e ∧ e < s.length ∧ sizeR s e = 0
  | m, i, hm, e, h => by
    by_cases hi : i < s.length
    · by_cases hz : sizeR s i = 0
      · rw [badI_bad hi hz] at h; cases h; exact ⟨Nat.le_refl _, hi, hz⟩
      · rw [badI_step hi hz] at h
        cases m with
        | zero => omega
        | succ m => have := badI_ge s m _ (by omega) e h; omega
    · rw [badI_end hi] at h; cases h
theorem digs_take {s : List UInt8} {e i : Nat} (hi : i ≤ e) (he : e < s.length) (hb : ¬ (48 ≤ byt s e ∧ byt s e ≤ 57)) : digLen ((s.take e).drop i) = digLen (s.drop i) ∧ digsAt (s.take e) i = digsAt s i ∧ i + digLen (s.drop i) ≤ e := by
  have h1 : (s.take e).drop i = (s.drop i).take (e - i) := by rw [List.drop_take]
  have key : ∀ (l : List UInt8) (d : Nat), d < l.length → ¬ (48 ≤ byt l d ∧ byt l d ≤ 57) → digLen (l.take d) = digLen l ∧ digLen l ≤ d := by
    intro l
    induction l with
    | nil => intro d hd _; simp at hd
    | cons b l ih =>
      intro d hd hb
      cases d with
      | zero =>
        have : ¬ (48 ≤ b.toNat ∧ b.toNat ≤ 57) := by simpa [byt] using hb
        simp [digLen, this]
      | succ d =>
        have := ih d (by simpa using hd) (by simpa [byt] using hb)
        simp only [List.take_succ_cons,digLen]
        split
        · omega
        · omega
  have h2 := key (s.drop i) (e - i) (by simp; omega) (by
    have : byt (s.drop i) (e - i) = byt s e := by unfold byt; rw [List.getElem?_drop, show i + (e - i) = e by omega]
    rw [this]; exact hb)
  refine ⟨by rw [h1]; exact h2.1, ?_, by omega⟩
  unfold digsAt
  rw [h1, h2.1, List.take_take, Nat.min_eq_left h2.2]
end Go.Vc
namespace Go.Vc
theorem lineEnd_spec (s : List UInt8) (i : Nat) (hi : i ≤ s.length) : (∀ k, i ≤ k → k < lineEnd s i → byt s k ≠ 10) ∧ (lineEnd s i < s.length → byt s (lineEnd s i) = 10) := by
  unfold lineEnd
  cases h : (s.drop i).findIdx? (· == 10) with
  | none =>
    refine ⟨fun k h1 h2 e => ?_, fun h => absurd h (Nat.lt_irrefl _)⟩
    rw [List.findIdx?_eq_none_iff] at h
    have h2 : k < s.length := h2
    have := h s[k] (List.mem_drop_iff_getElem.2 ⟨k - i, by omega, by simp [show i + (k - i) = k by omega]⟩)
    rw [← byt_get h2] at e
    have e : s[k] = 10 := UInt8.toNat.inj e
    simp [e] at this
  | some k0 =>
    obtain ⟨h1, h2, h3⟩ := List.findIdx?_eq_some_iff_getElem.1 h
    simp only [List.length_drop] at h1
    simp only [List.getElem_drop,beq_iff_eq] at h2
    refine ⟨fun k g1 g2 e => ?_, fun _ => ?_⟩
    · have g2 : k < i + k0 := g2
      have hk : k < s.length := by omega
      have := h3 (k - i) (by omega)
      simp only [List.getElem_drop,show i + (k - i) = k by omega,beq_iff_eq] at this
      rw [← byt_get hk] at e
      exact this (UInt8.toNat.inj e)
    · show byt s (i + k0) = 10
      rw [← byt_get (by omega), h2]; rfl
theorem decR_of {s : List UInt8} {i : Nat} (hz : sizeR s i ≠ 0) : decR s i = (runeR s i (sizeR s i), sizeR s i) := by simp [decR, hz]
theorem rune_ascii {s : List UInt8} {i : Nat} (h : byt s i ≤ 127) : runeR s i (sizeR s i) = byt s i := by rw [sizeR_ascii h]; rfl
theorem rune_small {s : List UInt8} {i : Nat} (hi : i < s.length) (hz : sizeR s i ≠ 0) (h : runeR s i (sizeR s i) ≤ 127) : runeR s i (sizeR s i) = byt s i := by
  have := decR_ascii hi (by rw [decR_of hz]; exact h)
  rw [decR_of hz] at this
  exact this
theorem allI_digs {s : List UInt8} {e : Nat} (he : e ≤ s.length) : ∀ (m j : Nat), e - j ≤ m → j ≤ e → (∀ k, j ≤ k → k < e → byt s k ≤ 127) → allI s e j = allI s e e
  | m, j, hm, hj, hd => by
    by_cases h : j = e
    · rw [h]
    · have hlt : j < e := by omega
      have hb := hd j (Nat.le_refl _) hlt
      have hs := sizeR_ascii hb
      rw [allI_step (by omega), decR_of (by omega), hs]
      have : nextI s e j (runeR s j 1) = (none, e) := by unfold nextI; rw [if_pos (.inl hlt)]
      simp only [this,Option.toList_none,List.nil_append]
      cases m with
      | zero => omega
      | succ m => exact allI_digs he m (j + 1) (by omega) (by omega) fun k h1 h2 => hd k (by omega) h2
theorem badI_digs {s : List UInt8} {e : Nat} (he : e ≤ s.length) : ∀ (m j : Nat), e - j ≤ m → j ≤ e → (∀ k, j ≤ k → k < e → byt s k ≤ 127) → badI s j = badI s e
  | m, j, hm, hj, hd => by
    by_cases h : j = e
    · rw [h]
    · have hlt : j < e := by omega
      have hs := sizeR_ascii (hd j (Nat.le_refl _) hlt)
      rw [badI_step (by omega) (by omega), hs]
      cases m with
      | zero => omega
      | succ m => exact badI_digs he m (j + 1) (by omega) (by omega) fun k h1 h2 => hd k (by omega) h2
theorem digs_byt {s : List UInt8} {i k : Nat} (h1 : i ≤ k) (h2 : k < i + digLen (s.drop i)) : 48 ≤ byt s k ∧ byt s k ≤ 57 := by
  obtain ⟨b, _, g1, g2, g3⟩ := dig_get (s := s) (j := i) (k - i) (by omega)
  rw [show i + (k - i) = k by omega] at g1
  omega
theorem digs_end {s : List UInt8} {i : Nat} (hi : i ≤ s.length) : i + digLen (s.drop i) ≤ s.length := by
  have := digLen_le (s.drop i); simp at this; omega
theorem fromT_cons0 {t : Tk} {l : List Tk} (h : ¬ t.n < 0) : fromT (t :: l) = (fromT l).cons t := by rw [fromT, if_neg h]
theorem of_lock (s : List UInt8) : ∀ (m i : Nat), s.length - i ≤ m → i ≤ s.length → badI s i = none →
    (∀ skip, skip ≤ i → fromT (allI s skip i) = ofI s false i) ∧
    (∀ skip, i ≤ skip → skip ≤ s.length → (∀ k, i ≤ k → k < skip → byt s k ≠ 10) → (skip < s.length → byt s skip = 10) → fromT (allI s skip i) = ofI s true i) := by
  intro m
  induction m with
  | zero =>
    intro i hm hi _
    have : ¬ i < s.length := by omega
    exact ⟨fun skip _ => by rw [allI_end this, ofI_end this]; rfl, fun skip _ _ _ _ => by rw [allI_end this, ofI_end this]; rfl⟩
  | succ m ih =>
    intro i hm hi hbad
    by_cases hlt : i < s.length
    · have hz : sizeR s i ≠ 0 := fun e => by rw [badI_bad hlt e] at hbad; cases hbad
      have hle := sizeR_le hlt
      have hb2 := hbad
      rw [badI_step hlt hz] at hb2
      have ih1 := ih (i + sizeR s i) (by omega) hle hb2
      have hst := fun skip => allI_step (s := s) (skip := skip) hlt
      have hra := @rune_ascii s i
      have hrs := rune_small hlt hz
      have hsa := @sizeR_ascii s i
      simp only [decR_of hz] at hst
      refine ⟨fun skip hsk => ?_, fun skip h1 h2 h3 h4 => ?_⟩
      · rw [hst skip]
        by_cases hw : byt s i = 32 ∨ byt s i = 9 ∨ byt s i = 10
        · have hc := hra (by omega)
          have : nextI s skip i (runeR s i (sizeR s i)) = (none, skip) := by unfold nextI; rw [if_pos (by omega)]
          simp only [this,Option.toList_none,List.nil_append]
          rw [ih1.1 skip (by omega), ofI_white hlt hz hw, hsa (by omega)]
        · by_cases h35 : byt s i = 35
          · have hc := hra (by omega)
            have : nextI s skip i (runeR s i (sizeR s i)) = (none, lineEnd s i) := by unfold nextI; rw [if_neg (by omega), if_pos (by omega)]
            simp only [this,Option.toList_none,List.nil_append]
            obtain ⟨l1, l2⟩ := lineEnd_spec s i hi
            obtain ⟨l3, l4⟩ := lineEnd_le s i hi
            have h1 := hsa (by omega)
            have hne : lineEnd s i ≠ i := fun e => by rw [e] at l2; have := l2 hlt; omega
            rw [ih1.2 (lineEnd s i) (by omega) l4 (fun k h1 h2 => l1 k (by omega) h2) l2, ofI_hash hlt hz h35, h1]
          · by_cases hd : 48 ≤ byt s i ∧ byt s i ≤ 57
            · have hc := hra (by omega)
              have : nextI s skip i (runeR s i (sizeR s i)) = (some ⟨2, 0, numT (digsAt s i), i⟩, i + digLen (s.drop i)) := by
                unfold nextI; rw [if_neg (by omega), if_neg (by omega), if_pos (by omega)]
              simp only [this,Option.toList_some,List.singleton_append]
              have h1 := hsa (by omega)
              have hdp := digLen_pos hd.1 hd.2
              have hde := digs_end hi
              have hdb : ∀ k, i ≤ k → k < i + digLen (s.drop i) → byt s k ≤ 127 := fun k g1 g2 => by have := digs_byt g1 g2; omega
              rw [h1, allI_digs hde _ (i + 1) (Nat.le_refl _) (by omega) fun k g1 g2 => hdb k (by omega) g2, ofI_num hlt hz hd]
              have hb3 : badI s (i + digLen (s.drop i)) = none := by rw [← badI_digs hde _ i (Nat.le_refl _) (by omega) hdb]; exact hbad
              have ih2 := (ih (i + digLen (s.drop i)) (by omega) hde hb3).1 (i + digLen (s.drop i)) (Nat.le_refl _)
              unfold numT
              cases hnb : numBad (digsAt s i)
              · simp only [Bool.false_eq_true,if_false]
                rw [fromT_cons0 (by simp), ih2]
              · simp only [if_true]
                rw [fromT, if_pos (by simp)]
                simp
            · have hc : ¬ (runeR s i (sizeR s i) ≤ 57 ∧ byt s i ≠ runeR s i (sizeR s i)) := fun ⟨g1, g2⟩ => g2 (hrs (by omega)).symm
              have hnb : ¬ (runeR s i (sizeR s i) = 32 ∨ runeR s i (sizeR s i) = 9 ∨ runeR s i (sizeR s i) = 10 ∨ runeR s i (sizeR s i) = 35 ∨ (48 ≤ runeR s i (sizeR s i) ∧ runeR s i (sizeR s i) ≤ 57)) := by
                intro g
                have := hrs (by omega)
                omega
              have : nextI s skip i (runeR s i (sizeR s i)) = (some ⟨1, runeR s i (sizeR s i), 0, i⟩, skip) := by
                unfold nextI; rw [if_neg (by omega), if_neg (by omega), if_neg (by omega)]
              simp only [this,Option.toList_some,List.singleton_append]
              rw [fromT_cons0 (by simp), ih1.1 skip (by omega), ofI_sign hlt hz (by omega)]
      · rw [hst skip]
        by_cases hsk : i < skip
        · have : nextI s skip i (runeR s i (sizeR s i)) = (none, skip) := by unfold nextI; rw [if_pos (.inl hsk)]
          simp only [this,Option.toList_none,List.nil_append]
          have hskip : i + sizeR s i ≤ skip := by
            rcases Nat.lt_or_ge skip (i + sizeR s i) with hc | hc
            · exfalso
              have h10 := h4 (by omega)
              obtain ⟨d, rfl⟩ : ∃ d, skip = i + d := ⟨skip - i, by omega⟩
              have hd : d = 1 ∨ d = 2 ∨ d = 3 := by rcases sizeR_cases s i with q | q | q | q | q <;> omega
              rcases sizeR_cases s i with q | q | q | q | q <;> rcases hd with rfl | rfl | rfl <;> omega
            · exact hc
          rw [ih1.2 skip hskip h2 (fun k g1 g2 => h3 k (by omega) g2) h4, ofI_com hlt hz, decide_eq_true (h3 i (Nat.le_refl _) hsk)]
        · obtain rfl : skip = i := by omega
          have h10 := h4 hlt
          have hc := hra (by omega)
          have : nextI s skip skip (runeR s skip (sizeR s skip)) = (none, skip) := by unfold nextI; rw [if_pos (by omega)]
          simp only [this,Option.toList_none,List.nil_append]
          rw [ih1.1 skip (by omega), ofI_com hlt hz, decide_eq_false (by omega)]
    · exact ⟨fun skip _ => by rw [allI_end hlt, ofI_end hlt]; rfl, fun skip _ _ _ _ => by rw [allI_end hlt, ofI_end hlt]; rfl⟩
theorem of_cut (s : List UInt8) (e : Nat) (he : e < s.length) (hze : sizeR s e = 0) : ∀ (m i : Nat) (c : Bool), e - i ≤ m → i ≤ e → badI s i = some e →
    badI (s.take e) i = none ∧ ofI s c i = match ofI (s.take e) c i with
      | .ok _ => .bad e
      | .bad p => .bad p := by
  have hlen : (s.take e).length = e := by simp; omega
  intro m
  induction m with
  | zero =>
    intro i c hm hi hb
    obtain rfl : i = e := by omega
    have h1 : ¬ i < (s.take i).length := by omega
    rw [badI_end h1, ofI_end h1, ofI_bad he hze]
    exact ⟨rfl, rfl⟩
  | succ m ih =>
    intro i c hm hi hb
    by_cases hie : i = e
    · subst hie
      have h1 : ¬ i < (s.take i).length := by omega
      rw [badI_end h1, ofI_end h1, ofI_bad he hze]
      exact ⟨rfl, rfl⟩
    · have hlt : i < s.length := by omega
      have hlt' : i < (s.take e).length := by omega
      have hz : sizeR s i ≠ 0 := fun g => by rw [badI_bad hlt g] at hb; cases hb; exact hie rfl
      have hb2 := hb
      rw [badI_step hlt hz] at hb2
      have hge := (badI_ge s _ _ (Nat.le_refl _) e hb2).1
      have hsz := sizeR_take hz hge
      have hru := runeR_take hge
      have hby : byt (s.take e) i = byt s i := by rw [byt_take, if_pos (by omega)]
      have hz' : sizeR (s.take e) i ≠ 0 := by omega
      have ihc := fun c => ih (i + sizeR s i) c (by omega) hge hb2
      have hsa := @sizeR_ascii s i
      refine ⟨by rw [badI_step hlt' hz', hsz]; exact (ihc false).1, ?_⟩
      cases c
      · by_cases hw : byt s i = 32 ∨ byt s i = 9 ∨ byt s i = 10
        · rw [ofI_white hlt hz hw, ofI_white hlt' hz' (by omega), ← hsa (by omega)]
          exact (ihc false).2
        · by_cases h35 : byt s i = 35
          · rw [ofI_hash hlt hz h35, ofI_hash hlt' hz' (by omega), ← hsa (by omega)]
            exact (ihc true).2
          · by_cases hd : 48 ≤ byt s i ∧ byt s i ≤ 57
            · have heb : ¬ (48 ≤ byt s e ∧ byt s e ≤ 57) := fun g => by have := sizeR_ascii (s := s) (i := e) (by omega); omega
              obtain ⟨d1, d2, d3⟩ := digs_take hi he heb
              have hdp := digLen_pos hd.1 hd.2
              rw [ofI_num hlt hz hd, ofI_num hlt' hz' (by omega), d1, d2]
              split
              · rfl
              · have hb3 : badI s (i + digLen (s.drop i)) = some e := by
                  rw [← badI_digs (e := i + digLen (s.drop i)) (by omega) _ i (Nat.le_refl _) (by omega) fun k g1 g2 => by have := digs_byt g1 g2; omega]
                  exact hb
                have := (ih (i + digLen (s.drop i)) false (by omega) d3 hb3).2
                rw [this]
                cases ofI (s.take e) false (i + digLen (s.drop i)) <;> rfl
            · rw [ofI_sign hlt hz (by omega), ofI_sign hlt' hz' (by omega), hsz, hru, (ihc false).2]
              cases ofI (s.take e) false (i + sizeR s i) <;> rfl
      · rw [ofI_com hlt hz, ofI_com hlt' hz', hsz, hby]
        exact (ihc _).2
theorem ofC_eq (s : List UInt8) : ofC s = ofI s false 0 := by
  unfold ofC
  cases h : badI s 0 with
  | none => exact (of_lock s s.length 0 (by omega) (by omega) h).1 0 (Nat.le_refl _)
  | some e =>
    obtain ⟨_, h2, h3⟩ := badI_ge s s.length 0 (by omega) e h
    obtain ⟨g1, g2⟩ := of_cut s e h2 h3 e 0 false (by omega) (by omega) h
    have := (of_lock (s.take e) (s.take e).length 0 (by omega) (by omega) g1).1 0 (Nat.le_refl _)
    rw [g2]
    simp only [this]
    cases ofI (s.take e) false 0 <;> rfl
end Go.Vc
namespace Go.Vc
variable {P : Program} {n : Nat} {st : St} {Q : St → Prop} {k : List It}
def TC (P : Program) (i : VIns) (x : St) (K : St → Prop) : Prop := T P i x K ∨ (wantV x.s i.g = some true ∧ match i.op with
  | .call fx xs => ∃ f caps Post, fx.ev x.s = .fn f caps ∧ Contract P f (xs.map (·.ev x.s) ++ caps) x.σ Post ∧ ∀ r σ', Post r σ' → K ⟨putO x.s i.dst r, σ'⟩
  | _ => False)
theorem TC.mono {i : VIns} {x : St} {K K' : St → Prop} (hk : ∀ x, K x → K' x) (h : TC P i x K) : TC P i x K' := by
  rcases h with h | ⟨h1, h2⟩
  · exact .inl (h.mono hk)
  · refine .inr ⟨h1, ?_⟩
    split at h2
    · obtain ⟨f, caps, Post, g1, g2, g3⟩ := h2
      exact ⟨f, caps, Post, g1, g2, fun r σ' hp => hk _ (g3 r σ' hp)⟩
    · exact h2.elim
theorem TC_sound {F : Fr} (hn : F.n = n) {o : Oper} {all : Array Oper} {x : St} {K : St → Prop} {a : Act} {w : World} (h : TC P (cins P n all o) x K) (hs : SatF F x a w)
    {next : Act → World → Prop} {Q' : Exit → Act → World → Prop} (hnext : ∀ x' a' w', SatF F x' a' w' → K x' → next a' w') :
    if Region.wanted o (yielded all a.tmps) then cop P n o.op ≠ .bad ∧ o.wp P a w next Q' else next (a.put o.dst undef) w := by
  rcases h with h | ⟨hw, h⟩
  · exact T_sound hn h hs hnext
  subst hn
  obtain ⟨μ, hs⟩ := hs
  have hwant := want_of (P := P) hs all o hw
  rw [hwant]
  simp only [if_true]
  have hdst : (cins P F.n all o).dst = o.dst.filter (· < F.n) := rfl
  have hopc : (cins P F.n all o).op = cop P F.n o.op := rfl
  rw [hdst, hopc] at h
  split at h
  · rename_i fx xs hop
    refine ⟨fun e => ?_, ?_⟩
    · rw [hop] at e; cases e
    obtain ⟨f, caps, Post, h1, h2, h3⟩ := h
    obtain ⟨f0, args, argTypes, g1, rfl, rfl⟩ := cop_call hop
    refine call_sound hs g1 h1 h2 fun r σ' hp a' w' hs' => ?_
    exact hnext _ a' w' hs' (h3 r σ' hp)
  · exact h.elim
def TnC (P : Program) (n : Nat) (ops : Array Oper) (i : Nat) (x : St) (K : St → Prop) : Prop := match ops[i]? with
  | some o => TC P (cins P n ops o) x K
  | none => K x
def wpAnyTC (P : Program) (n : Nat) (ops : Array Oper) (Q : St → Prop) : Nat → Array Bool → St → Prop
  | 0, listed, x => Region.ready .any ops listed = [] ∧ Q x
  | f + 1, listed, x => (Region.ready .any ops listed = [] → Q x) ∧ ∀ i ∈ Region.ready .any ops listed, TnC P n ops i x (wpAnyTC P n ops Q f (listed.setIfInBounds i true))
theorem wpAny_of_TC {F : Fr} (hn : F.n = n) {ops : Array Oper} {Q : St → Prop} {Q' : Exit → Act → World → Prop} (hQ : ∀ x a w, SatF F x a w → Q x → Q' .normal a w) :
    ∀ (f : Nat) (listed : Array Bool) (x : St) (a : Act) (w : World), SatF F x a w → wpAnyTC P n ops Q f listed x → wpAnyIn F.fence 0 P .any ops Q' f listed a w
  | 0, _, _, _, _, hs, h => ⟨h.1, hQ _ _ _ hs h.2⟩
  | f + 1, listed, x, a, w, hs, h => by
    refine ⟨fun h0 => hQ _ _ _ hs (h.1 h0), fun i hi => ?_⟩
    have h1 := h.2 i hi
    unfold TnC at h1
    unfold wpOpIn
    cases ho : ops[i]? with
    | none =>
      simp only [ho] at h1
      exact wpAny_of_TC hn hQ f _ x a w hs h1
    | some o =>
      simp only [ho] at h1
      have h2 := TC_sound (Q' := Q') hn h1 hs fun x' a' w' hs' hk => wpAny_of_TC hn hQ f _ x' a' w' hs' hk
      by_cases hw : Region.wanted o (yielded ops a.tmps) = true
      · rw [if_pos hw] at h2
        simp only [hw, if_true]
        exact opIn (cop_defer h2.1) h2.2
      · rw [if_neg hw] at h2
        simp only [hw]
        exact ⟨fun _ _ => trivial, h2⟩
def allVC (P : Program) (l : List VIns) (rec : List Nat → St → Prop) (listed : List Nat) (x : St) : List Nat → Prop
  | [] => True
  | i :: is => (match l[i]? with
      | some ins => TC P ins x (rec (i :: listed))
      | none => False) ∧ allVC P l rec listed x is
def anyVC (P : Program) (l : List VIns) (deps : List (List Nat)) (Q : St → Prop) : Nat → List Nat → St → Prop
  | 0, listed, x => readyV deps listed = [] ∧ Q x
  | f + 1, listed, x => match readyV deps listed with
      | [] => Q x
      | i :: is => allVC P l (anyVC P l deps Q f) listed x (i :: is)
theorem allV_memC {l : List VIns} {rec : List Nat → St → Prop} {listed : List Nat} {x : St} : ∀ {is : List Nat}, allVC P l rec listed x is → ∀ i ∈ is, ∃ ins, l[i]? = some ins ∧ TC P ins x (rec (i :: listed))
  | [], _, _, hi => by cases hi
  | j :: is, h, i, hi => by
    obtain ⟨h1, h2⟩ := h
    rcases List.mem_cons.1 hi with rfl | hi
    · cases hl : l[i]? with
      | none => rw [hl] at h1; exact h1.elim
      | some ins => rw [hl] at h1; exact ⟨ins, rfl, h1⟩
    · exact allV_memC h2 i hi
theorem wpAnyT_of_anyVC {ops : Array Oper} {Q : St → Prop} : ∀ (f : Nat) (arr : Array Bool) (listed : List Nat) (x : St), arr.size = ops.size → (∀ i, i < ops.size → arr.getD i true = listed.contains i) →
    (∀ i ∈ listed, i < ops.size) → anyVC P (ops.toList.map (cins P n ops)) (depsOf ops) Q f listed x → wpAnyTC P n ops Q f arr x
  | 0, arr, listed, x, hs, hl, ho, h => ⟨by rw [readyV_eq hs hl ho]; exact h.1, h.2⟩
  | f + 1, arr, listed, x, hs, hl, ho, h => by
    have hr := readyV_eq hs hl ho
    unfold anyVC at h
    refine ⟨fun h0 => ?_, fun i hi => ?_⟩
    · rw [hr] at h0
      rw [h0] at h
      exact h
    · rw [hr] at hi
      have hlt : i < ops.size := by
        have := (List.mem_filter.1 hi).1
        simpa [depsOf] using this
      have hall : allVC P (ops.toList.map (cins P n ops)) (anyVC P (ops.toList.map (cins P n ops)) (depsOf ops) Q f) listed x (readyV (depsOf ops) listed) := by
        cases hrr : readyV (depsOf ops) listed with
        | nil => exact trivial
        | cons j js => rw [hrr] at h; exact h
      obtain ⟨ins, h1, h2⟩ := allV_memC hall i hi
      have h3 : ops[i]? = some ops[i] := Array.getElem?_eq_getElem hlt
      have h4 : ins = cins P n ops ops[i] := by simpa [hlt] using h1.symm
      unfold TnC
      simp only [h3]
      rw [← h4]
      refine h2.mono fun x' hx' => wpAnyT_of_anyVC f _ (i :: listed) x' (by simpa using hs) (fun j hj => ?_) (fun j hj => ?_) hx'
      · by_cases e : j = i
        · subst e
          rw [Array.getD_eq_getD_getElem?, Array.getElem?_setIfInBounds_self_of_lt (by omega)]
          simp
        · rw [Array.getD_eq_getD_getElem?, Array.getElem?_setIfInBounds_ne (fun e' => e e'.symm), ← Array.getD_eq_getD_getElem?, hl j hj]
          simp [e]
      · rcases List.mem_cons.1 hj with rfl | hj
        · exact hlt
        · exact ho j hj
theorem Runs.regAC (hm : P.follows .mixedOrders = true) {l : List VIns} {deps : List (List Nat)} (h : anyVC P l deps (fun x => Runs P n k x Q) l.length [] st) : Runs P n (.code (.regA l deps) :: k) st Q := by
  intro F hn kt hk a w hs
  obtain ⟨z, kt', rfl, hy, hk'⟩ := kt_cons hk
  obtain ⟨c0, rfl, hcc⟩ := it_code hy
  have hc0 : ∃ id ops, c0 = .region id ops true ∧ ops.toList.map (cins P n ops) = l ∧ depsOf ops = deps := by
    cases c0 <;> simp only [ccode, reduceCtorEq] at hcc
    rename_i id ops draw
    cases draw
    · simp at hcc
    · simp only [Bool.true_and] at hcc
      split at hcc
      · cases hcc
      split at hcc
      · simp only [VCode.regA.injEq] at hcc
        exact ⟨id, ops, rfl, hcc.1, hcc.2⟩
      · simp at hcc
  obtain ⟨id, ops, rfl, rfl, rfl⟩ := hc0
  have hs' : SatF F st a { w with drawn := w.drawn + 1 } := by
    obtain ⟨μ, hs⟩ := hs
    have hk : Keeps (Owned μ st.σ) (Owned μ st.σ) w { w with drawn := w.drawn + 1 } := fun _ _ h => ⟨h, rfl⟩
    refine ⟨μ, ⟨⟨hs.sat.size, hs.sat.os, hs.sat.tape, hs.sat.output, hs.sat.same, hs.sat.fin, hs.sat.inj, fun id o ho => ?_, hs.sat.fresh, hs.sat.glob⟩, hs.le, hs.size, hs.book.keep hk, fun i hi => ?_⟩⟩
    · exact (hs.sat.obj id o ho).mono (MuLe.refl μ) hk (Nat.le_refl _) (fun _ _ _ _ => rfl)
    · exact Rep.mono (MuLe.refl μ) hk (Nat.le_refl _) _ _ (hs.slot i hi)
  refine wpIn_region_any hm (wpAny_of_TC (Q := fun x => Runs P n k x Q) hn (fun x a w hs h => h F hn kt' hk' a w hs) _ _ _ _ _ hs' ?_)
  have := wpAnyT_of_anyVC (P := P) (n := n) (Q := fun x => Runs P n k x Q) (ops := ops) ops.size (Array.replicate ops.size false) [] st (by simp) (fun i hi => by
    rw [Array.getD_eq_getD_getElem?, Array.getElem?_replicate, if_pos hi]; simp) (by simp) (by simpa using h)
  exact this
def det1C (P : Program) (l : List VIns) (deps : List (List Nat)) (x0 : St) (v : Nat → V) (σs : Nat → Store) (i : Nat) (ins : VIns) : Prop :=
  ∀ s' : Nat → V, (∀ k ∈ deps.getD i [], slotIs l v s' k) → (∀ d, noDst l d = true → s' d = x0.s d) → match ins with
    | ⟨_, .store sz xa xv, none⟩ => storeS (σs (nst l i)) sz (xa.ev s') (xv.ev s') = some (σs (nst l i + 1)) ∧ v i = .tup []
    | ⟨_, .call fx xs, none⟩ => ∃ f caps, fx.ev s' = .fn f caps ∧ Contract P f (xs.map (·.ev s') ++ caps) (σs (nst l i)) fun r σ' => r = v i ∧ σ' = σs (nst l i + 1)
    | ins => okind ins.op = 0 ∧ wantV s' ins.g = some true ∧ vpre s' ins.op ∧ ∀ p, vpure (σs p) s' ins.op = some (v i)
def detLC (P : Program) (l : List VIns) (deps : List (List Nat)) (x0 : St) (v : Nat → V) (σs : Nat → Store) : Nat → List VIns → Prop
  | _, [] => True
  | i, ins :: r => det1C P l deps x0 v σs i ins ∧ detLC P l deps x0 v σs (i + 1) r
theorem detLC_get {l : List VIns} {deps : List (List Nat)} {x0 : St} {v : Nat → V} {σs : Nat → Store} : ∀ {r : List VIns} {i j : Nat} {ins : VIns}, detLC P l deps x0 v σs i r → r[j]? = some ins → det1C P l deps x0 v σs (i + j) ins
  | [], _, _, _, _, h => by simp at h
  | a :: r, i, 0, ins, hd, h => by simp at h; subst h; exact hd.1
  | a :: r, i, j + 1, ins, hd, h => by
    simp only [List.getElem?_cons_succ] at h
    have := detLC_get hd.2 h
    rwa [show i + 1 + j = i + (j + 1) by omega] at this
theorem allV_ofC {l : List VIns} {rec : List Nat → St → Prop} {listed : List Nat} {x : St} : ∀ {is : List Nat}, (∀ i ∈ is, ∃ ins, l[i]? = some ins ∧ TC P ins x (rec (i :: listed))) → allVC P l rec listed x is
  | [], _ => trivial
  | j :: is, h => by
    obtain ⟨ins, h1, h2⟩ := h j (by simp)
    refine ⟨by rw [h1]; exact h2, allV_ofC fun i hi => h i (by simp [hi])⟩
theorem anyV_detC {l : List VIns} {deps : List (List Nat)} {x0 : St} {v : Nat → V} {σs : Nat → Store} (hB : detB l deps = true) (hd : detLC P l deps x0 v σs 0 l) {Q : St → Prop}
    (hQ : ∀ x, (∀ k, slotIs l v x.s k) → (∀ d, noDst l d = true → x.s d = x0.s d) → x.σ = σs (nst l l.length) → Q x) :
    ∀ (f : Nat) (listed : List Nat) (x : St), f + listed.length = l.length → listed.Nodup → (∀ k ∈ listed, k < l.length ∧ ∀ j ∈ deps.getD k [], j ∈ listed) → Agr l x0 v σs listed x →
      anyVC P l deps Q f listed x := by
  simp only [detB, Bool.and_eq_true, beq_iff_eq, List.all_eq_true, List.mem_range, decide_eq_true_eq, Bool.or_eq_true, Bool.not_eq_true'] at hB
  obtain ⟨⟨⟨hS, hD⟩, hlen⟩, hlt⟩ := hB
  have fin : ∀ (listed : List Nat) (x : St), listed.length = l.length → listed.Nodup → (∀ k ∈ listed, k < l.length) → Agr l x0 v σs listed x → Q x := by
    intro listed x hl hn hk ha
    have hall := (pigeon l.length listed hn hk).2 hl
    refine hQ x (fun k => ?_) ha.free ?_
    · by_cases hkl : k < l.length
      · exact ha.slot k (hall k hkl)
      · unfold slotIs; rw [List.getElem?_eq_none (by omega)]; trivial
    · rw [ha.store]
      congr 1
      refine same_len (hn.filter _) ((range_nodup _).filter _) fun a => ?_
      simp only [List.mem_filter, List.mem_range]
      exact ⟨fun ⟨h1, h2⟩ => ⟨hk a h1, h2⟩, fun ⟨h1, h2⟩ => ⟨hall a h1, h2⟩⟩
  intro f
  induction f with
  | zero =>
    intro listed x hl hn hk ha
    have hall := (pigeon l.length listed hn fun k h => (hk k h).1).2 (by omega)
    refine ⟨?_, fin listed x (by omega) hn (fun k h => (hk k h).1) ha⟩
    cases hr : readyV deps listed with
    | nil => rfl
    | cons i is =>
      have := readyV_mem (deps := deps) (listed := listed) (i := i) (by rw [hr]; simp)
      exact absurd (hall i (by omega)) this.2.1
  | succ f ih =>
    intro listed x hl hn hk ha
    have step : ∀ i ∈ readyV deps listed, ∃ ins, l[i]? = some ins ∧ TC P ins x (anyVC P l deps Q f (i :: listed)) := by
      intro i hi
      obtain ⟨h1, h2, h3⟩ := readyV_mem hi
      have hil : i < l.length := by omega
      refine ⟨l[i], List.getElem?_eq_getElem hil, ?_⟩
      have hins : l[i]? = some l[i] := List.getElem?_eq_getElem hil
      have hdi := detLC_get hd hins
      rw [Nat.zero_add] at hdi
      have hd1 := hdi x.s (fun k hk' => ha.slot k (h3 k hk')) ha.free
      -- the state behind it
      have next : ∀ (w : V) (σ' : Store), w = v i → σ' = σs ((i :: listed).filter (isSt l)).length → Agr l x0 v σs (i :: listed) ⟨putO x.s (l[i]).dst w, σ'⟩ := by
        rintro w σ' rfl rfl
        refine ⟨fun k hk' => ?_, fun d hdd => ?_, rfl⟩
        · by_cases hki : k = i
          · subst hki
            unfold slotIs
            rw [hins]
            simp only [Option.bind_some]
            cases hdst : (l[k]).dst with
            | none => trivial
            | some d => simp [putO]
          · have hkl : k ∈ listed := by simpa [hki] using hk'
            have hs := ha.slot k hkl
            unfold slotIs at hs ⊢
            cases hdk : (l[k]?).bind (·.dst) with
            | none => trivial
            | some d =>
              rw [hdk] at hs
              simp only at hs ⊢
              have hne : (l[i]).dst ≠ some d := fun e => by
                have hkl' := (hk k hkl).1
                rcases Nat.lt_or_gt_of_ne hki with g | g
                · have := hD i hil k g
                  rw [hdk, hins] at this
                  simp [e] at this
                · have := hD k hkl' i g
                  rw [hdk, hins] at this
                  simp [e] at this
              rw [← hs]
              cases hdst : (l[i]).dst with
              | none => rfl
              | some d' => simp only [putO]; rw [if_neg (fun e => hne (by rw [hdst, e]))]
        · have hne : (l[i]).dst ≠ some d := fun e => by
            have := List.all_eq_true.1 hdd l[i] (List.getElem_mem hil)
            rw [e] at this; simp at this
          rw [← ha.free d hdd]
          cases hdst : (l[i]).dst with
          | none => rfl
          | some d' => simp only [putO]; rw [if_neg (fun e => hne (by rw [hdst, e]))]
      have again : ∀ x', Agr l x0 v σs (i :: listed) x' → anyVC P l deps Q f (i :: listed) x' := fun x' ha' =>
        ih (i :: listed) x' (by simp; omega) (List.nodup_cons.2 ⟨h2, hn⟩) (fun k hk' => by
          rcases List.mem_cons.1 hk' with rfl | hk'
          · exact ⟨hil, fun j hj => List.mem_cons_of_mem _ (h3 j hj)⟩
          · exact ⟨(hk k hk').1, fun j hj => List.mem_cons_of_mem _ ((hk k hk').2 j hj)⟩) ha'
      have hcnt : isSt l i = true → (listed.filter (isSt l)).length = nst l i := by
        intro hst
        unfold nst
        refine same_len (hn.filter _) ((range_nodup _).filter _) fun a => ?_
        simp only [List.mem_filter, List.mem_range]
        refine ⟨fun ⟨g1, g2⟩ => ⟨?_, g2⟩, fun ⟨g1, g2⟩ => ⟨?_, g2⟩⟩
        · have hal := (hk a g1).1
          rcases Nat.lt_trichotomy a i with g | g | g
          · exact g
          · subst g; exact absurd g1 h2
          · exfalso
            have := hS a hal i g
            rw [hst, g2] at this
            simp at this
            exact h2 ((hk a g1).2 i (by simpa using this))
        · have := hS i hil a g1
          rw [hst, g2] at this
          simp at this
          exact h3 a (by simpa using this)
      generalize hI : l[i] = ins at *
      obtain ⟨dst, op, g⟩ := ins
      split at hd1
      · rename_i _ d' sz xa xv heq
        simp only [VIns.mk.injEq] at heq
        obtain ⟨rfl, rfl, rfl⟩ := heq
        have hst : isSt l i = true := by unfold isSt; rw [hins]; rfl
        have hcnt := hcnt hst
        have hx : x.σ = σs (nst l i) := by rw [ha.store, hcnt]
        refine .inl (T.store (x := x) (σ' := σs (nst l i + 1)) (by rw [hx]; exact hd1.1) (again _ (next _ _ hd1.2.symm ?_)))
        rw [List.filter_cons_of_pos hst, List.length_cons, hcnt]
      · rename_i _ d' fx xs heq
        simp only [VIns.mk.injEq] at heq
        obtain ⟨rfl, rfl, rfl⟩ := heq
        have hst : isSt l i = true := by unfold isSt; rw [hins]; rfl
        have hcnt := hcnt hst
        have hx : x.σ = σs (nst l i) := by rw [ha.store, hcnt]
        obtain ⟨fn, caps, c1, c2⟩ := hd1
        refine .inr ⟨rfl, fn, caps, _, c1, by rw [hx]; exact c2, fun r σ' hp => ?_⟩
        obtain ⟨rfl, rfl⟩ := hp
        refine again _ (next _ _ rfl ?_)
        rw [List.filter_cons_of_pos hst, List.length_cons, hcnt]
      · obtain ⟨q1, q2, q3, q4⟩ := hd1
        have hst : isSt l i = false := by unfold isSt; rw [hins]; simp only; simp only at q1; rw [q1]; rfl
        refine .inl (T.pure q2 q1 q3 (by rw [ha.store]; exact q4 _) (again _ (next _ _ rfl ?_)))
        rw [List.filter_cons_of_neg (by rw [hst]; simp), ha.store]
    unfold anyVC
    cases hr : readyV deps listed with
    | nil =>
      exfalso
      -- the first one that is not listed is ready
      have hex : ∃ m, m < l.length ∧ m ∉ listed := by
        refine Classical.byContradiction fun hno => ?_
        have hall : ∀ m, m < l.length → m ∈ listed := fun m hm => Classical.byContradiction fun h => hno ⟨m, hm, h⟩
        have := same_len hn (range_nodup l.length) fun a => ⟨fun h => List.mem_range.2 (hk a h).1, fun h => hall a (List.mem_range.1 h)⟩
        simp at this; omega
      obtain ⟨m, hm, hmin⟩ : ∃ m, (m < l.length ∧ m ∉ listed) ∧ ∀ j, j < m → ¬ (j < l.length ∧ j ∉ listed) := by
        obtain ⟨m, hm⟩ := hex
        induction m using Nat.strongRecOn with
        | _ m ihm =>
          by_cases h : ∃ j, j < m ∧ (j < l.length ∧ j ∉ listed)
          · obtain ⟨j, g1, g2⟩ := h; exact ihm j g1 g2
          · exact ⟨m, hm, fun j hj hc => h ⟨j, hj, hc⟩⟩
      have hready : m ∈ readyV deps listed := by
        unfold readyV
        refine List.mem_filter.2 ⟨List.mem_range.2 (by omega), ?_⟩
        simp only [Bool.and_eq_true, Bool.not_eq_true', List.all_eq_true]
        refine ⟨by simpa using hm.2, fun j hj => ?_⟩
        have hjm := hlt m (by omega) j hj
        have := hmin j hjm
        have : j ∈ listed := Classical.byContradiction fun h => this ⟨by omega, h⟩
        simpa using this
      rw [hr] at hready; cases hready
    | cons i is =>
      have hall := allV_ofC step
      rw [hr] at hall
      exact hall
theorem Runs.regDC (hm : P.follows .mixedOrders = true) {l : List VIns} {deps : List (List Nat)} (v : Nat → V) (σs : Nat → Store) (hB : detB l deps = true) (h0 : st.σ = σs 0) (hd : detLC P l deps st v σs 0 l)
    (hQ : ∀ s', (∀ k, slotIs l v s' k) → (∀ d, noDst l d = true → s' d = st.s d) → Runs P n k ⟨s', σs (nst l l.length)⟩ Q) : Runs P n (.code (.regA l deps) :: k) st Q := by
  refine Runs.regAC hm (anyV_detC hB hd (Q := fun x => Runs P n k x Q) (fun x h1 h2 h3 => ?_) l.length [] st (by simp) List.nodup_nil (by simp) ⟨by simp, fun _ _ => rfl, by simpa using h0⟩)
  obtain ⟨s', σ'⟩ := x
  simp only at h1 h2 h3
  rw [h3]
  exact hQ s' h1 h2
end Go.Vc
namespace Go.Vc
open Go.Proofs
theorem of_lex (s : List UInt8) (hs : s.length ≤ 1000000) : PFun Tryz.prog 12 [.str s] (resT (ofI s false 0)) := by rw [← ofC_eq]; exact of_c s hs
def encL (l : List Tk) : V := .sl 4 (l.map encT)
theorem encL_nil : encL [] = .sl 4 [] := rfl
theorem encL_cons (t : Tk) (l : List Tk) : encL (t :: l) = .sl 4 (encT t :: l.map encT) := rfl
theorem idx0 (σ : Store) (t : Tk) (l : List V) : idxAV σ 4 (.sl 4 (encT t :: l)) (.int .i64 0) = some (.rp (.agg [vI t.kind, .int .i32 t.sign, vI t.n, vI t.at'])) := by simp [idxAV, encT]
theorem len0 : (((0 : Nat) : Int) > 0) = False := by simp
theorem len1 (n : Nat) : (((n + 1 : Nat) : Int) > 0) = True := by simp
def signB (c : Int) : List Tk → Bool
  | [] => false
  | t :: _ => decide (t.kind = 1) && decide (t.sign = c)
def numB (a b : Int) : List Tk → Bool
  | [] => false
  | t :: _ => decide (t.kind = 2) && (decide (t.n ≥ a) && decide (t.n ≤ b))
theorem rsign_c (l : List Tk) (c : Int) : PFun Tryz.prog 28 [encL l, .int .i32 c] (.bool (signB c l)) := fun σ => by
  refine Contract.of_runs Tryz.func28 e28 k28 (by simp [c28]) ?_
  refine Runs.mix 5 ?_
  cases l with
  | nil => rw [encL_nil]; (refine Runs.of_step Orc.nothing 300 ?_; simp -implicitDefEqProofs only [BB,seval,effR_some,effD_some,← decide_not,okind,vpre,vpure,intBin,intPre,strBin,strPre,popTo,argSlots,fldV,fldAV,subCells,idxVV,idxAAV,idxSV,sliceV,sliceSV,boundV,szIs,storeOp,storeS,setRowV,eff,extV,buildV,splice,eqSV,fitsL,eqCells,eqCell,minmaxV,capV,binBV,nilCheckV,bytesV,V.cells,V.stays,Orc.nothing,c28,len0]); exact RetV.same rfl
  | cons t l =>
    rw [encL_cons]
    (refine Runs.of_step Orc.nothing 300 ?_; simp -implicitDefEqProofs only [BB,seval,effR_some,effD_some,← decide_not,okind,vpre,vpure,intBin,intPre,strBin,strPre,popTo,argSlots,fldV,fldAV,subCells,idxVV,idxAAV,idxSV,sliceV,sliceSV,boundV,szIs,storeOp,storeS,setRowV,eff,extV,buildV,splice,eqSV,fitsL,eqCells,eqCell,minmaxV,capV,binBV,nilCheckV,bytesV,V.cells,V.stays,Orc.nothing,c28,len1,idx0])
    exact ⟨fun h => RetV.same (by simp [signB, h]), fun h => RetV.same (by simp [signB, h])⟩
theorem rnum_c (l : List Tk) (a b : Int) : PFun Tryz.prog 54 [encL l, vI a, vI b] (.bool (numB a b l)) := fun σ => by
  refine Contract.of_runs Tryz.func54 e54 k54 (by simp [c54]) ?_
  refine Runs.mix 7 ?_
  cases l with
  | nil => rw [encL_nil]; (refine Runs.of_step Orc.nothing 300 ?_; simp -implicitDefEqProofs only [BB,seval,effR_some,effD_some,← decide_not,okind,vpre,vpure,intBin,intPre,strBin,strPre,popTo,argSlots,fldV,fldAV,subCells,idxVV,idxAAV,idxSV,sliceV,sliceSV,boundV,szIs,storeOp,storeS,setRowV,eff,extV,buildV,splice,eqSV,fitsL,eqCells,eqCell,minmaxV,capV,binBV,nilCheckV,bytesV,V.cells,V.stays,Orc.nothing,c54,len0]); exact RetV.same rfl
  | cons t l =>
    rw [encL_cons]
    (refine Runs.of_step Orc.nothing 300 ?_; simp -implicitDefEqProofs only [BB,seval,effR_some,effD_some,← decide_not,okind,vpre,vpure,intBin,intPre,strBin,strPre,popTo,argSlots,fldV,fldAV,subCells,idxVV,idxAAV,idxSV,sliceV,sliceSV,boundV,szIs,storeOp,storeS,setRowV,eff,extV,buildV,splice,eqSV,fitsL,eqCells,eqCell,minmaxV,capV,binBV,nilCheckV,bytesV,V.cells,V.stays,Orc.nothing,c54,len1,idx0])
    exact ⟨fun h => ⟨fun h2 => RetV.same (by simp [numB, h, h2]), fun h2 => RetV.same (by simp [numB, h, h2])⟩, fun h => RetV.same (by simp [numB, h])⟩
end Go.Vc
namespace Go.Vc
open Go.Proofs
abbrev rdr (l : List Tk) (w : Bool) : Ob := ⟨40, 2, [.agg [encL l, .bool w]]⟩
def takeR (c : Int) (l : List Tk) (w : Bool) : List Tk × Bool := if w || !signB c l then (l, true) else (l.tail, false)
def countR (a b : Int) (l : List Tk) (w : Bool) : Int × List Tk × Bool := match l with
  | [] => (0, [], true)
  | t :: r => if w || !numB a b l then (0, l, true) else (t.n, r, false)
theorem retU {σ : Store} {σ' : Store} (h : σ = σ') : RetV (.tup []) σ fun r σ1 => r = .tup [] ∧ σ1 = σ' := ⟨_, _, SubStore.refl _, Wk.refl (SubStore.refl _) _, rfl, h⟩
theorem retI {σ : Store} {σ' : Store} {v v' : V} (hv : v = v') (h : σ = σ') : RetV v σ fun r σ1 => r = v' ∧ σ1 = σ' := ⟨_, _, SubStore.refl _, Wk.refl (SubStore.refl _) _, hv, h⟩
theorem slice1 (σ : Store) (sz : Nat) (x : V) (l : List V) : sliceV σ sz (.sl sz (x :: l)) (some (.int .i64 1)) none none = some (.sl sz l) := by
  simp only [sliceV,boundV,List.length_cons]
  rw [if_pos ⟨by omega, by omega, by omega, by omega, trivial⟩]
  simp
theorem take_c {σ : Store} {id : Nat} {l : List Tk} {w : Bool} (c : Int) (h : σ id = some (rdr l w)) : Contract Tryz.prog 31 [.ptr id 0 0, .int .i32 c] σ fun r σ' => r = .tup [] ∧ σ' = upd σ id (rdr (takeR c l w).1 (takeR c l w).2) := by
  refine Contract.of_runs Tryz.func31 e31 k31 (by simp [c31]) ?_
  refine Runs.mix 4 ?_
  cases w with
  | true =>
    (refine Runs.of_step Orc.nothing 300 ?_; simp -implicitDefEqProofs only [BB,seval,effR_some,effD_some,← decide_not,okind,vpre,vpure,intBin,intPre,strBin,strPre,popTo,argSlots,fldV,fldAV,subCells,idxVV,idxAAV,idxSV,sliceV,sliceSV,boundV,szIs,storeOp,storeS,setRowV,eff,extV,buildV,splice,eqSV,fitsL,eqCells,eqCell,minmaxV,capV,binBV,nilCheckV,bytesV,V.cells,V.stays,Orc.nothing,c31,h])
    exact retU (by simp [takeR])
  | false =>
    (refine Runs.of_step Orc.nothing 300 ?_; simp -implicitDefEqProofs only [BB,seval,effR_some,effD_some,← decide_not,okind,vpre,vpure,intBin,intPre,strBin,strPre,popTo,argSlots,fldV,fldAV,subCells,idxVV,idxAAV,idxSV,sliceV,sliceSV,boundV,szIs,storeOp,storeS,setRowV,eff,extV,buildV,splice,eqSV,fitsL,eqCells,eqCell,minmaxV,capV,binBV,nilCheckV,bytesV,V.cells,V.stays,Orc.nothing,c31,h])
    refine Runs.pcall rfl rfl rfl (rsign_c l c _) ?_
    cases hs : signB c l with
    | false =>
      (refine Runs.of_step Orc.nothing 300 ?_; simp -implicitDefEqProofs only [BB,seval,effR_some,effD_some,← decide_not,okind,vpre,vpure,intBin,intPre,strBin,strPre,popTo,argSlots,fldV,fldAV,subCells,idxVV,idxAAV,idxSV,sliceV,sliceSV,boundV,szIs,storeOp,storeS,setRowV,eff,extV,buildV,splice,eqSV,fitsL,eqCells,eqCell,minmaxV,capV,binBV,nilCheckV,bytesV,V.cells,V.stays,Orc.nothing,h])
      exact retU (by simp [takeR, hs])
    | true =>
      cases l with
      | nil => cases hs
      | cons t r =>
        have hl : (encL (t :: r)) = .sl 4 (encT t :: r.map encT) := rfl
        have h2 : upd σ id (rdr (t :: r) false) id = some (rdr (t :: r) false) := upd_same
        (refine Runs.of_step Orc.nothing 300 ?_; simp -implicitDefEqProofs only [BB,seval,effR_some,effD_some,← decide_not,okind,vpre,vpure,intBin,intPre,strBin,strPre,popTo,argSlots,fldV,fldAV,subCells,idxVV,idxAAV,idxSV,sliceSV,boundV,szIs,storeOp,storeS,setRowV,eff,extV,buildV,splice,eqSV,fitsL,eqCells,eqCell,minmaxV,capV,binBV,nilCheckV,bytesV,V.cells,V.stays,Orc.nothing,h,hl,slice1])
        exact retU (by simp [takeR, hs]; rfl)
theorem count_c {σ : Store} {id : Nat} {l : List Tk} {w : Bool} (a b : Int) (h : σ id = some (rdr l w)) : Contract Tryz.prog 53 [.ptr id 0 0, vI a, vI b] σ fun r σ' => r = vI (countR a b l w).1 ∧ σ' = upd σ id (rdr (countR a b l w).2.1 (countR a b l w).2.2) := by
  refine Contract.of_runs Tryz.func53 e53 k53 (by simp [c53]) ?_
  refine Runs.mix 7 ?_
  have hw : (countR a b l true) = (0, l, true) := by cases l <;> simp [countR]
  cases w with
  | true =>
    (refine Runs.of_step Orc.nothing 300 ?_; simp -implicitDefEqProofs only [BB,seval,effR_some,effD_some,← decide_not,okind,vpre,vpure,intBin,intPre,strBin,strPre,popTo,argSlots,fldV,fldAV,subCells,idxVV,idxAAV,idxSV,sliceV,sliceSV,boundV,szIs,storeOp,storeS,setRowV,eff,extV,buildV,splice,eqSV,fitsL,eqCells,eqCell,minmaxV,capV,binBV,nilCheckV,bytesV,V.cells,V.stays,Orc.nothing,c53,h])
    exact retI (by rw [hw]) (by rw [hw])
  | false =>
    (refine Runs.of_step Orc.nothing 300 ?_; simp -implicitDefEqProofs only [BB,seval,effR_some,effD_some,← decide_not,okind,vpre,vpure,intBin,intPre,strBin,strPre,popTo,argSlots,fldV,fldAV,subCells,idxVV,idxAAV,idxSV,sliceV,sliceSV,boundV,szIs,storeOp,storeS,setRowV,eff,extV,buildV,splice,eqSV,fitsL,eqCells,eqCell,minmaxV,capV,binBV,nilCheckV,bytesV,V.cells,V.stays,Orc.nothing,c53,h])
    refine Runs.pcall rfl rfl rfl (rnum_c l a b _) ?_
    cases hs : numB a b l with
    | false =>
      have hc : (countR a b l false) = (0, l, true) := by cases l <;> simp [countR, hs]
      (refine Runs.of_step Orc.nothing 300 ?_; simp -implicitDefEqProofs only [BB,seval,effR_some,effD_some,← decide_not,okind,vpre,vpure,intBin,intPre,strBin,strPre,popTo,argSlots,fldV,fldAV,subCells,idxVV,idxAAV,idxSV,sliceV,sliceSV,boundV,szIs,storeOp,storeS,setRowV,eff,extV,buildV,splice,eqSV,fitsL,eqCells,eqCell,minmaxV,capV,binBV,nilCheckV,bytesV,V.cells,V.stays,Orc.nothing,h])
      exact retI (by rw [hc]) (by rw [hc])
    | true =>
      cases l with
      | nil => cases hs
      | cons t r =>
        have hc : countR a b (t :: r) false = (t.n, r, false) := by simp [countR, hs]
        have hl : (encL (t :: r)) = .sl 4 (encT t :: r.map encT) := rfl
        (refine Runs.of_step Orc.nothing 300 ?_; simp -implicitDefEqProofs only [BB,seval,effR_some,effD_some,← decide_not,okind,vpre,vpure,intBin,intPre,strBin,strPre,popTo,argSlots,fldV,fldAV,subCells,idxVV,idxAAV,idxSV,sliceSV,boundV,szIs,storeOp,storeS,setRowV,eff,extV,buildV,splice,eqSV,fitsL,eqCells,eqCell,minmaxV,capV,binBV,nilCheckV,bytesV,V.cells,V.stays,Orc.nothing,h,hl,slice1,len1,idx0])
        exact retI (by rw [hc]) (by rw [hc]; rfl)
end Go.Vc
namespace Go.Vc
open Go.Proofs
abbrev styO (s : List Int) : Ob := ⟨55, 12, [.agg (s.map vI)]⟩
theorem sty_set {s : List Int} {k : Nat} (n : Int) (h : k < s.length) (hs : s.length = 12) : setRowV (.agg (s.map vI)) k 1 (vI n) = some (.agg ((s.set k n).map vI)) := by
  unfold setRowV
  rw [if_pos ⟨rfl, rfl⟩, if_neg (by simp [V.cells, hs]), if_pos (by simp [V.cells]; omega), List.map_set, List.set_eq_take_append_cons_drop, if_pos (by simpa using h)]
  simp [V.cells]
def numF (id i3 k : Nat) (a b : Int) : V := .fn 68 [.rp (.ptr id 0 0), .rp (vI a), .rp (vI b), .rp (.ptr i3 0 k)]
theorem numf_c (id i3 k : Nat) (a b : Int) : PFun Tryz.prog 67 [.ptr i3 0 k, vI a, vI b, .rp (.ptr id 0 0)] (numF id i3 k a b) := fun σ => by
  refine Contract.of_runs Tryz.func67 e67 k67 (by simp [c67]) ?_
  refine Runs.mix 4 ?_
  (refine Runs.of_step Orc.nothing 300 ?_; simp -implicitDefEqProofs only [BB,seval,← decide_not,okind,vpre,vpure,intBin,intPre,strBin,strPre,popTo,argSlots,fldV,fldAV,subCells,idxVV,idxAAV,idxSV,sliceV,sliceSV,boundV,szIs,storeOp,storeS,setRowV,eff,extV,buildV,splice,eqSV,fitsL,eqCells,eqCell,minmaxV,capV,binBV,nilCheckV,bytesV,V.cells,V.stays,Orc.nothing,c67])
  refine effR_new fun id4 σ4 s4 a4 f4 => ?_
  simp -implicitDefEqProofs only [BB,seval,← decide_not,okind,vpre,vpure,intBin,intPre,strBin,strPre,popTo,argSlots,fldV,fldAV,subCells,idxVV,idxAAV,idxSV,sliceV,sliceSV,boundV,szIs,storeOp,storeS,setRowV,eff,extV,buildV,splice,eqSV,fitsL,eqCells,eqCell,minmaxV,capV,binBV,nilCheckV,bytesV,V.cells,V.stays]
  refine effR_new fun id5 σ5 s5 a5 f5 => ?_
  simp -implicitDefEqProofs only [BB,seval,← decide_not,okind,vpre,vpure,intBin,intPre,strBin,strPre,popTo,argSlots,fldV,fldAV,subCells,idxVV,idxAAV,idxSV,sliceV,sliceSV,boundV,szIs,storeOp,storeS,setRowV,eff,extV,buildV,splice,eqSV,fitsL,eqCells,eqCell,minmaxV,capV,binBV,nilCheckV,bytesV,V.cells,V.stays]
  refine effR_new fun id6 σ6 s6 a6 f6 => ?_
  simp -implicitDefEqProofs only [BB,seval,← decide_not,okind,vpre,vpure,intBin,intPre,strBin,strPre,popTo,argSlots,fldV,fldAV,subCells,idxVV,idxAAV,idxSV,sliceV,sliceSV,boundV,szIs,storeOp,storeS,setRowV,eff,extV,buildV,splice,eqSV,fitsL,eqCells,eqCell,minmaxV,capV,binBV,nilCheckV,bytesV,V.cells,V.stays]
  exact ⟨_, σ, (s4.trans s5).trans s6, Wk.fn (vs' := [.rp (.ptr id 0 0), .rp (vI a), .rp (vI b), .rp (.ptr i3 0 k)])
    ⟨Wk.refl ((s4.trans s5).trans s6) _, Wk.ptr ((s4.trans s5).trans s6) (s6 _ _ a5) (s4.none f5), Wk.ptr ((s4.trans s5).trans s6) a6 ((s4.trans s5).none f6), Wk.ptr ((s4.trans s5).trans s6) ((s5.trans s6) _ _ a4) f4, trivial⟩, rfl, rfl⟩
def appV (id i3 k : Nat) (a b n : Int) : Nat → V
  | 0 => .ptr i3 0 k
  | 1 => .ptr id 0 0
  | 2 => vI a
  | 3 => vI b
  | 4 => vI n
  | 5 => .ptr i3 0 k
  | _ => .tup []
def appS (σ σ1 σ2 : Store) : Nat → Store
  | 0 => σ
  | 1 => σ1
  | _ => σ2
theorem app_c {σ : Store} {id i3 k : Nat} {l : List Tk} {w : Bool} {s : List Int} (a b : Int) (h : σ id = some (rdr l w)) (h3 : σ i3 = some (styO s)) (hne : i3 ≠ id) (hk : k < s.length) (hs : s.length = 12) :
    Contract Tryz.prog 68 [.rp (.ptr id 0 0), .rp (vI a), .rp (vI b), .rp (.ptr i3 0 k)] σ fun r σ' => r = .tup [] ∧
      σ' = upd (upd σ id (rdr (countR a b l w).2.1 (countR a b l w).2.2)) i3 (styO (s.set k (countR a b l w).1)) := by
  refine Contract.of_runs Tryz.func68 e68 k68 (by simp [c68]) ?_
  have h0 : argSlots [.rp (.ptr id 0 0), .rp (vI a), .rp (vI b), .rp (.ptr i3 0 k)] 0 = .rp (.ptr id 0 0) := rfl
  refine Runs.regDC (by kernel_rfl) (appV id i3 k a b (countR a b l w).1) (appS σ (upd σ id (rdr (countR a b l w).2.1 (countR a b l w).2.2)) (upd (upd σ id (rdr (countR a b l w).2.1 (countR a b l w).2.2)) i3 (styO (s.set k (countR a b l w).1)))) (by kernel_rfl) rfl ⟨?_, ?_, ?_, ?_, ?_, ?_, ?_, trivial⟩ ?_
  · intro s' hd hf
    have e : s' 3 = .rp (.ptr i3 0 k) := hf 3 (by kernel_rfl)
    exact ⟨rfl, rfl, trivial, fun p => by simp [vpure, VX.ev, loadV, e, appV]⟩
  · intro s' hd hf
    have e : s' 0 = .rp (.ptr id 0 0) := hf 0 (by kernel_rfl)
    exact ⟨rfl, rfl, trivial, fun p => by simp [vpure, VX.ev, loadV, e, appV]⟩
  · intro s' hd hf
    have e : s' 1 = .rp (vI a) := hf 1 (by kernel_rfl)
    exact ⟨rfl, rfl, trivial, fun p => by simp [vpure, VX.ev, loadV, e, appV]⟩
  · intro s' hd hf
    have e : s' 2 = .rp (vI b) := hf 2 (by kernel_rfl)
    exact ⟨rfl, rfl, trivial, fun p => by simp [vpure, VX.ev, loadV, e, appV]⟩
  · intro s' hd hf
    have e5 : s' 5 = .ptr id 0 0 := hd 1 (by decide)
    have e6 : s' 6 = vI a := hd 2 (by decide)
    have e7 : s' 7 = vI b := hd 3 (by decide)
    refine ⟨_, [], rfl, ?_⟩
    show Contract _ _ [s' 5, s' 6, s' 7] σ _
    rw [e5, e6, e7]
    exact count_c a b h
  · intro s' hd hf
    have e : s' 4 = .ptr i3 0 k := hd 0 (by decide)
    exact ⟨rfl, rfl, trivial, fun p => by simp [vpure, VX.ev, nilCheckV, e, appV]⟩
  · intro s' hd hf
    have e : s' 9 = .ptr i3 0 k := hd 5 (by decide)
    have e2 : s' 8 = vI (countR a b l w).1 := hd 4 (by decide)
    refine ⟨?_, rfl⟩
    show storeS (upd σ id _) 1 (s' 9) (s' 8) = some (upd (upd σ id _) i3 _)
    rw [e, e2]
    simp only [storeS,upd_ne hne,h3,List.getElem?_cons_zero,sty_set _ hk hs,List.set_cons_zero]
  · intro s' hv hf
    exact Runs.nil (Ret_none.mpr (retU rfl))
end Go.Vc
namespace Go.Vc
open Go.RowKit
variable {P : Program} {n : Nat} {st : St} {Q : St → Prop} {k : List It} {μ : Mu} {w : World}
theorem cop_inv {o : Op} {tbl : List (TypeId × FuncId)} {xs : List VX} (h : cop P n o = .more (.inv tbl) xs) : ∃ r name args argTypes, o = .call { callee := .invoke r name, args := args, argTypes := argTypes } ∧
    tbl = invTbl P name ∧ xs = cx n r :: args.toList.map (cx n) := by
  cases o
  case call c =>
    obtain ⟨callee, args, argTypes⟩ := c
    cases callee
    case value => simp [cop] at h
    case invoke r name =>
      simp only [cop, VOp.more.injEq, MOp.inv.injEq] at h
      exact ⟨r, name, args, argTypes, rfl, h.1.symm, h.2.symm⟩
    case builtin b => cases b <;> (simp only [cop, nilB] at h; (repeat' split at h) <;> cases h)
  case unOp op t x => cases op <;> simp only [cop, nilB] at h <;> cases h
  case makeFunc f a b => cases f <;> simp only [cop, nilB] at h <;> (repeat' split at h) <;> cases h
  all_goals (simp only [cop, nilB] at h; (repeat' split at h) <;> cases h)
theorem invTbl_get {name : String} {t : TypeId} {f : FuncId} (h : (invTbl P name).lookup t = some f) : invOf P name t = some f ∧ t < P.types.size := by
  unfold invTbl at h
  have key : ∀ l : List Nat, (l.filterMap fun t => (invOf P name t).map fun f => (t, f)).lookup t = some f → invOf P name t = some f ∧ t ∈ l := by
    intro l
    induction l with
    | nil => intro h; simp at h
    | cons a l ih =>
      intro h
      rw [List.filterMap_cons] at h
      cases ha : invOf P name a with
      | none =>
        rw [ha] at h
        simp only [Option.map_none] at h
        obtain ⟨h1, h2⟩ := ih h
        exact ⟨h1, List.mem_cons_of_mem _ h2⟩
      | some g =>
        rw [ha] at h
        simp only [Option.map_some, List.lookup_cons] at h
        by_cases e : t = a
        · subst e
          simp at h
          subst h
          exact ⟨ha, by simp⟩
        · have : (t == a) = false := by simpa using e
          rw [this] at h
          obtain ⟨h1, h2⟩ := ih h
          exact ⟨h1, List.mem_cons_of_mem _ h2⟩
  obtain ⟨h1, h2⟩ := key _ h
  exact ⟨h1, by simpa using h2⟩
theorem run_method {name : String} {t : TypeId} {f : FuncId} (h : invOf P name t = some f) (fuel : Nat) (v : Value) : (method (fuel + 1) t v name).run P w = .ok (f, v) w := by
  unfold invOf at h
  cases hi : P.info? t with
  | none => rw [hi] at h; cases h
  | some i =>
    rw [hi] at h
    simp only at h
    cases hm : i.methods.find? (·.name == name) with
    | none => rw [hm] at h; cases h
    | some m =>
      rw [hm] at h
      simp only at h
      split at h
      · rename_i hp
        have hp' : m.path.toList = [] := by simpa using hp
        cases hf : m.func with
        | none => rw [hf] at h; simp at h
        | some fp =>
          obtain ⟨f0, pr⟩ := fp
          rw [hf] at h
          cases hu : P.underlying t with
          | none => rw [hu] at h; cases pr <;> simp at h
          | some d =>
            rw [hu] at h
            cases pr
            · cases d
              case pointer e => simp at h
              all_goals
                simp only [Option.some.injEq] at h
                subst h
                simp [method, typeInfo, hi, hm, follow, hp', hf, receiverAt, run_underlying hu, Place.get]
            · cases d
              case pointer e =>
                simp only [Option.some.injEq] at h
                subst h
                simp [method, typeInfo, hi, hm, follow, hp', hf, receiverAt, run_underlying hu, Place.get]
              all_goals simp at h
      · cases h
theorem Runs.inv {i : VIns} {l : List VIns} {tbl : List (TypeId × FuncId)} {rx : VX} {xs : List VX} (hw : wantV st.s i.g = some true) (ho : i.op = .more (.inv tbl) (rx :: xs)) {t : TypeId} {v : V} (hr : rx.ev st.s = .iface t v)
    {f : FuncId} (hf : tbl.lookup t = some f) {Post : V → Store → Prop} (hc : Contract P f (v :: xs.map (·.ev st.s)) st.σ Post)
    (h : ∀ r σ', Post r σ' → Runs P n (.ops l :: k) ⟨putO st.s i.dst r, σ'⟩ Q) : Runs P n (.ops (i :: l) :: k) st Q := by
  refine Runs.ins (by rw [ho]; simp) hw fun F hn μ a w o all hi hs next Q' hnext => ?_
  subst hn
  obtain ⟨hop, hd⟩ := cins_op hi
  rw [ho] at hop
  obtain ⟨r0, name, args, argTypes, g1, rfl, g2⟩ := cop_inv hop
  simp only [List.cons.injEq] at g2
  obtain ⟨rfl, rfl⟩ := g2
  obtain ⟨q1, q2⟩ := invTbl_get hf
  have hfr := rep_cx hs r0
  rw [hr] at hfr
  simp only [Rep] at hfr
  obtain ⟨y, hy, hry⟩ := hfr
  have hargs : RepAll μ (Owned μ st.σ) w (v :: (args.toList.map (cx F.n)).map (·.ev st.s)) (y :: args.toList.map a.eval) := by
    simp only [RepAll]; exact ⟨y, _, rfl, hry, rep_cxs hs args.toList⟩
  have hrun : (execOp a.eval o).run P w = .ok (.enter f ((y :: args.toList.map a.eval).toArray)) w := by
    unfold execOp
    rw [g1]
    have hpos : 0 < P.types.size := Nat.lt_of_le_of_lt (Nat.zero_le _) q2
    obtain ⟨fu, hfu⟩ : ∃ fu, P.types.size + Made.depth = fu + 1 := ⟨P.types.size + Made.depth - 1, by omega⟩
    have hprog : (program : Sem Program).run P w = .ok P w := rfl
    have harr : (#[Value.iface t y] ++ args.map a.eval).extract 1 (#[Value.iface t y] ++ args.map a.eval).size = args.map a.eval := by
      apply Array.ext'
      simp [List.take_of_length_le]
    have hget : (#[Value.iface t y] ++ args.map a.eval)[0]? = some (.iface t y) := by
      rw [Array.getElem?_append_left (by simp)]; rfl
    simp only [resolve, Sem.run_bind, Sem.run_pure, Result.andThen_ok, invoke, hy, hget, harr, callMethod, hprog, hfu, run_method q1]
    have hen := run_callFunc (w := w) hc.1 (#[y] ++ args.map a.eval)
    rw [hen]
    congr 2
    apply Array.ext'
    simp
  unfold Oper.wp
  rw [hrun]
  simp only [Oper.upon]
  have hsat : Sat w (Owned μ st.σ) μ st.σ w := hs.sat.here
  refine (hc.2 μ w _ hsat hargs).mono ?_
  rintro e w' ⟨r, σ', μ', val, rfl, hp, hle, hs', hr'⟩
  obtain ⟨hfin, hkeep⟩ := hs.sat.compose hs'
  refine hnext _ _ _ ⟨μ', ?_⟩ (h r σ' hp)
  rw [← hd]
  exact hs.step hfin hle hkeep hs'.size hr'
end Go.Vc
namespace Go.Vc
open Go.RowKit
variable {P : Program} {n : Nat} {st : St} {Q : St → Prop} {k : List It} {μ : Mu} {w : World}
def keyIs (c : IntKind) (m : Int) : Value → Bool
  | .int c' m' => decide (c' = c ∧ m' = m)
  | _ => false
theorem keyIs_int {c : IntKind} {m m' : Int} : keyIs c m (.int c m') = decide (m' = m) := by simp [keyIs]
def mapGet (c : IntKind) (m : Int) : List MapEntry → List V → Option V
  | e :: es, v :: vs => if keyIs c m e.key then some v else mapGet c m es vs
  | _, _ => none
structure MapRel (c : IntKind) (es : List MapEntry) (env : List V) (f : Int → Option V) : Prop where
  len : es.length = env.length
  keys : ∀ e ∈ es, ∃ m, e.key = .int c m
  get : ∀ m, mapGet c m es env = f m
  apart : es.Pairwise fun a b => a.key ≠ b.key
def MapIs (c : IntKind) (σ : Store) (id : Nat) (f : Int → Option V) : Prop :=
  ∃ (es : Array MapEntry) (clock : Nat) (env : List V), σ id = some (gh (.map es clock) env) ∧ MapRel c es.toList env f
theorem MapIs.sub {c : IntKind} {σ σ' : Store} {id : Nat} {f : Int → Option V} (h : MapIs c σ id f) (hs : SubStore σ σ') : MapIs c σ' id f := by
  obtain ⟨es, clock, env, h1, h2⟩ := h
  exact ⟨es, clock, env, hs _ _ h1, h2⟩
theorem MapIs.ne {c : IntKind} {σ : Store} {id j : Nat} {f : Int → Option V} {e : TypeId} {sz : Nat} {rows : List V} (h : MapIs c σ id f) (hj : σ j = some ⟨e, sz, rows⟩) (hz : sz ≠ 0) : j ≠ id := by
  rintro rfl
  obtain ⟨es, clock, env, h1, _⟩ := h
  rw [h1] at hj
  simp only [gh, Option.some.injEq, Ob.mk.injEq] at hj
  exact hz hj.2.1.symm
theorem mapGet_none {c : IntKind} {m : Int} : ∀ {es : List MapEntry} {env : List V}, (∀ e ∈ es, e.key ≠ .int c m) → (∀ e ∈ es, ∃ m, e.key = .int c m) → mapGet c m es env = none
  | [], _, _, _ => by simp [mapGet]
  | e :: es, [], _, _ => by simp [mapGet]
  | e :: es, v :: vs, h, hk => by
    obtain ⟨m', hm'⟩ := hk e (by simp)
    have h1 := h e (by simp)
    rw [hm'] at h1
    have : m' ≠ m := fun e => h1 (by rw [e])
    simp only [mapGet, hm', keyIs_int, this, decide_false, Bool.false_eq_true, if_false]
    exact mapGet_none (fun e he => h e (by simp [he])) (fun e he => hk e (by simp [he]))
theorem find_get (c : IntKind) (kk : IntKind) (m : Int) : ∀ (es : List MapEntry) (env : List V) (i : Nat), es.length = env.length → (∀ e ∈ es, ∃ m, e.key = .int c m) →
    (mapGet c m es env = none ∧ Instr.findNow (.int kk) (.int c m) es i = some none ∧ ∀ e ∈ es, e.key ≠ .int c m) ∨
    (∃ j e v, es[j]? = some e ∧ env[j]? = some v ∧ e.key = .int c m ∧ mapGet c m es env = some v ∧ Instr.findNow (.int kk) (.int c m) es i = some (some (i + j, e.val)))
  | [], env, i, _, _ => .inl ⟨by simp [mapGet], by simp [Instr.findNow], by simp⟩
  | e :: es, [], i, hl, _ => by simp at hl
  | e :: es, v :: vs, i, hl, hk => by
    obtain ⟨m', hm'⟩ := hk e (by simp)
    by_cases hm : m' = m
    · subst hm
      refine .inr ⟨0, e, v, rfl, rfl, hm', by simp [mapGet, hm', keyIs_int], ?_⟩
      simp [Instr.findNow, Instr.sameNow, hm']
    · have hmm : ¬ m = m' := fun e => hm e.symm
      have hg : mapGet c m (e :: es) (v :: vs) = mapGet c m es vs := by simp [mapGet, hm', keyIs_int, hm]
      have hf : Instr.findNow (.int kk) (.int c m) (e :: es) i = Instr.findNow (.int kk) (.int c m) es (i + 1) := by
        have hb : (m == m') = false := by simpa using hmm
        simp [Instr.findNow, Instr.sameNow, hm', hb]
      rcases find_get c kk m es vs (i + 1) (by simpa using hl) (fun x hx => hk x (by simp [hx])) with ⟨h1, h2, h3⟩ | ⟨j, e', v', h1, h2, h3, h4, h5⟩
      · refine .inl ⟨by rw [hg, h1], by rw [hf, h2], fun x hx => ?_⟩
        rcases List.mem_cons.1 hx with rfl | hx
        · rw [hm']; intro e; cases e; exact hm rfl
        · exact h3 x hx
      · refine .inr ⟨j + 1, e', v', by simpa using h1, by simpa using h2, h3, by rw [hg, h4], ?_⟩
        rw [hf, h5, show i + 1 + j = i + (j + 1) by omega]
theorem mapGet_set {c : IntKind} {m : Int} {v : V} {e' : MapEntry} (he' : e'.key = .int c m) (m' : Int) : ∀ (es : List MapEntry) (env : List V) (j : Nat) (e : MapEntry), es.length = env.length → (∀ e ∈ es, ∃ m, e.key = .int c m) →
    es.Pairwise (fun a b => a.key ≠ b.key) → es[j]? = some e → e.key = .int c m → mapGet c m' (es.set j e') (env.set j v) = if m' = m then some v else mapGet c m' es env
  | [], _, j, e, _, _, _, h, _ => by simp at h
  | x :: es, [], j, e, hl, _, _, _, _ => by simp at hl
  | x :: es, u :: us, 0, e, hl, hk, hp, h, he => by
    simp at h; subst h
    simp only [List.set_cons_zero, mapGet, he', he, keyIs_int]
    by_cases hm : m' = m
    · subst hm; simp
    · have : ¬ m = m' := fun e => hm e.symm
      simp [hm, this]
  | x :: es, u :: us, j + 1, e, hl, hk, hp, h, he => by
    obtain ⟨mx, hmx⟩ := hk x (by simp)
    have hpx := (List.pairwise_cons.1 hp)
    have hne : mx ≠ m := by
      rintro rfl
      exact hpx.1 e (List.mem_of_getElem? (by simpa using h)) (by rw [hmx, he])
    have ih := mapGet_set he' m' (v := v) es us j e (by simpa using hl) (fun y hy => hk y (by simp [hy])) hpx.2 (by simpa using h) he
    simp only [List.set_cons_succ, mapGet, hmx, keyIs_int]
    by_cases hm : mx = m'
    · have : ¬ m' = m := fun e => hne (hm.trans e)
      simp [hm, this]
    · simp only [hm, decide_false, Bool.false_eq_true, if_false]; exact ih
theorem mapGet_push {c : IntKind} {m : Int} {v : V} {e' : MapEntry} (he' : e'.key = .int c m) (m' : Int) : ∀ (es : List MapEntry) (env : List V), es.length = env.length → (∀ e ∈ es, ∃ m, e.key = .int c m) →
    (∀ e ∈ es, e.key ≠ .int c m) → mapGet c m' (es ++ [e']) (env ++ [v]) = if m' = m then some v else mapGet c m' es env
  | [], [], _, _, _ => by
    simp only [List.nil_append, mapGet, he', keyIs_int]
    by_cases hm : m' = m
    · subst hm; simp
    · have : ¬ m = m' := fun e => hm e.symm
      simp [hm, this]
  | [], _ :: _, hl, _, _ => by simp at hl
  | x :: es, [], hl, _, _ => by simp at hl
  | x :: es, u :: us, hl, hk, hn => by
    obtain ⟨mx, hmx⟩ := hk x (by simp)
    have hne : mx ≠ m := by
      rintro rfl
      exact hn x (by simp) hmx
    have ih := mapGet_push he' m' (v := v) es us (by simpa using hl) (fun y hy => hk y (by simp [hy])) (fun y hy => hn y (by simp [hy]))
    simp only [List.cons_append, mapGet, hmx, keyIs_int]
    by_cases hm : mx = m'
    · have : ¬ m' = m := fun e => hne (hm.trans e)
      simp [hm, this]
    · simp only [hm, decide_false, Bool.false_eq_true, if_false]; exact ih
theorem mapGet_erase {c : IntKind} {m : Int} (m' : Int) : ∀ (es : List MapEntry) (env : List V) (j : Nat) (e : MapEntry), es.length = env.length → (∀ e ∈ es, ∃ m, e.key = .int c m) →
    es.Pairwise (fun a b => a.key ≠ b.key) → es[j]? = some e → e.key = .int c m → mapGet c m' (es.eraseIdx j) (env.eraseIdx j) = if m' = m then none else mapGet c m' es env
  | [], _, j, e, _, _, _, h, _ => by simp at h
  | x :: es, [], j, e, hl, _, _, _, _ => by simp at hl
  | x :: es, u :: us, 0, e, hl, hk, hp, h, he => by
    simp at h; subst h
    have hpx := (List.pairwise_cons.1 hp)
    simp only [List.eraseIdx_cons_zero, mapGet, he, keyIs_int]
    by_cases hm : m' = m
    · subst hm
      rw [mapGet_none (fun y hy e => hpx.1 y hy (by rw [he, e])) (fun y hy => hk y (by simp [hy]))]
      simp
    · have : ¬ m = m' := fun e => hm e.symm
      simp [hm, this]
  | x :: es, u :: us, j + 1, e, hl, hk, hp, h, he => by
    obtain ⟨mx, hmx⟩ := hk x (by simp)
    have hpx := (List.pairwise_cons.1 hp)
    have hne : mx ≠ m := by
      rintro rfl
      exact hpx.1 e (List.mem_of_getElem? (by simpa using h)) (by rw [hmx, he])
    have ih := mapGet_erase m' es us j e (by simpa using hl) (fun y hy => hk y (by simp [hy])) hpx.2 (by simpa using h) he
    simp only [List.eraseIdx_cons_succ, mapGet, hmx, keyIs_int]
    by_cases hm : mx = m'
    · have : ¬ m' = m := fun e => hne (hm.trans e)
      simp [hm, this]
    · simp only [hm, decide_false, Bool.false_eq_true, if_false]; exact ih
theorem MapRel.nil (c : IntKind) : MapRel c [] [] fun _ => none := ⟨rfl, by simp, fun _ => rfl, .nil⟩
theorem MapRel.set {c : IntKind} {es : List MapEntry} {env : List V} {f : Int → Option V} (h : MapRel c es env f) {m : Int} {v : V} {j : Nat} {e e' : MapEntry} (hj : es[j]? = some e) (he : e.key = .int c m) (he' : e'.key = .int c m) :
    MapRel c (es.set j e') (env.set j v) fun m' => if m' = m then some v else f m' where
  len := by simp [h.len]
  keys := fun x hx => by
    rcases List.mem_or_eq_of_mem_set hx with hx | rfl
    · exact h.keys x hx
    · exact ⟨m, he'⟩
  get := fun m' => by rw [mapGet_set he' m' es env j e h.len h.keys h.apart hj he, h.get m']
  apart := by
    have hmap : (es.set j e').map (·.key) = es.map (·.key) := by
      rw [List.map_set, he', ← he]
      apply List.ext_getElem?
      intro i
      rw [List.getElem?_set]
      split
      · rename_i e1
        subst e1
        split
        · simp [hj]
        · rename_i hge
          rw [List.getElem?_eq_none (by omega)]
      · rfl
    have h1 : (es.map (·.key)).Pairwise (· ≠ ·) := List.pairwise_map.2 h.apart
    rw [← hmap] at h1
    exact List.pairwise_map.1 h1
theorem MapRel.push {c : IntKind} {es : List MapEntry} {env : List V} {f : Int → Option V} (h : MapRel c es env f) {m : Int} {v : V} {e' : MapEntry} (hn : ∀ e ∈ es, e.key ≠ .int c m) (he' : e'.key = .int c m) :
    MapRel c (es ++ [e']) (env ++ [v]) fun m' => if m' = m then some v else f m' where
  len := by simp [h.len]
  keys := fun x hx => by
    rcases List.mem_append.1 hx with hx | hx
    · exact h.keys x hx
    · simp at hx; subst hx; exact ⟨m, he'⟩
  get := fun m' => by rw [mapGet_push he' m' es env h.len h.keys hn, h.get m']
  apart := by
    rw [List.pairwise_append]
    refine ⟨h.apart, by simp, fun a ha b hb => ?_⟩
    simp at hb; subst hb
    rw [he']; exact hn a ha
theorem MapRel.erase {c : IntKind} {es : List MapEntry} {env : List V} {f : Int → Option V} (h : MapRel c es env f) {m : Int} {j : Nat} {e : MapEntry} (hj : es[j]? = some e) (he : e.key = .int c m) :
    MapRel c (es.eraseIdx j) (env.eraseIdx j) fun m' => if m' = m then none else f m' where
  len := by
    have := h.len
    have hlt := (List.getElem?_eq_some_iff.1 hj).1
    rw [List.length_eraseIdx_of_lt hlt, List.length_eraseIdx_of_lt (by omega), this]
  keys := fun x hx => h.keys x (List.mem_of_mem_eraseIdx hx)
  get := fun m' => by rw [mapGet_erase m' es env j e h.len h.keys h.apart hj he, h.get m']
  apart := h.apart.sublist (List.eraseIdx_sublist _ _)
end Go.Vc
namespace Go.Vc
open Go.RowKit
variable {P : Program} {n : Nat} {st : St} {Q : St → Prop} {k : List It} {μ : Mu} {w : World}
theorem mapT_some {t e : TypeId} (h : mapT P t = some e) : ∃ kt kk, P.underlying t = some (.map kt e) ∧ P.underlying kt = some (.int kk) := by
  unfold mapT at h
  split at h
  · rename_i kt et ht
    split at h
    · rename_i kk hk
      simp only [Option.some.injEq] at h
      subst h
      exact ⟨kt, kk, ht, hk⟩
    · cases h
  · cases h
theorem cop_mkMap {o : Op} {xs : List VX} (h : cop P n o = .more .mkMap xs) : ∃ t, o = .makeMap t none ∧ xs = [] := by
  cases o
  case makeMap t r =>
    simp only [cop] at h
    split at h
    · rename_i hc
      simp only [Bool.and_eq_true, Option.isNone_iff_eq_none] at hc
      obtain ⟨rfl, _⟩ := hc
      simp only [VOp.more.injEq, true_and] at h
      exact ⟨t, rfl, h.symm⟩
    · cases h
  case call c =>
    obtain ⟨callee, args, argTypes⟩ := c
    cases callee
    case value => simp [cop] at h
    case invoke r name => simp [cop] at h
    case builtin b => cases b <;> (simp only [cop, nilB] at h; (repeat' split at h) <;> cases h)
  case unOp op t x => cases op <;> simp only [cop, nilB] at h <;> cases h
  case makeFunc f a b => cases f <;> simp only [cop, nilB] at h <;> (repeat' split at h) <;> cases h
  all_goals (simp only [cop, nilB] at h; (repeat' split at h) <;> cases h)
theorem cop_insM {o : Op} {xs : List VX} (h : cop P n o = .more .insM xs) : ∃ t m y x, (o = .insert t m y x ∨ o = .mapUpdate t m y x) ∧ (mapT P t).isSome = true ∧ xs = [cx n m, cx n y, cx n x] := by
  cases o
  case insert t m y x =>
    simp only [cop] at h
    split at h
    · rename_i hc
      simp only [VOp.more.injEq, true_and] at h
      exact ⟨t, m, y, x, .inl rfl, hc, h.symm⟩
    · cases h
  case mapUpdate t m y x =>
    simp only [cop] at h
    split at h
    · rename_i hc
      simp only [VOp.more.injEq, true_and] at h
      exact ⟨t, m, y, x, .inr rfl, hc, h.symm⟩
    · cases h
  case call c =>
    obtain ⟨callee, args, argTypes⟩ := c
    cases callee
    case value => simp [cop] at h
    case invoke r name => simp [cop] at h
    case builtin b => cases b <;> (simp only [cop, nilB] at h; (repeat' split at h) <;> cases h)
  case unOp op t x => cases op <;> simp only [cop, nilB] at h <;> cases h
  case makeFunc f a b => cases f <;> simp only [cop, nilB] at h <;> (repeat' split at h) <;> cases h
  all_goals (simp only [cop, nilB] at h; (repeat' split at h) <;> cases h)
theorem cop_lookM {o : Op} {xs : List VX} {ok : Bool} {zv : V} (h : cop P n o = .more (.lookM ok zv) xs) : ∃ t x y e i z, o = .lookup t x y ok ∧ mapT P t = some e ∧ zeroOf P e = some (i, z) ∧ zv = ofValue z ∧ xs = [cx n x, cx n y] := by
  cases o
  case lookup t x y ok' =>
    simp only [cop] at h
    split at h
    · rename_i e he
      split at h
      · rename_i i z hz
        simp only [VOp.more.injEq, MOp.lookM.injEq] at h
        obtain ⟨⟨rfl, rfl⟩, rfl⟩ := h
        exact ⟨t, x, y, e, i, z, rfl, he, hz, rfl, rfl⟩
      · cases h
    · cases h
  case call c =>
    obtain ⟨callee, args, argTypes⟩ := c
    cases callee
    case value => simp [cop] at h
    case invoke r name => simp [cop] at h
    case builtin b => cases b <;> (simp only [cop, nilB] at h; (repeat' split at h) <;> cases h)
  case unOp op t x => cases op <;> simp only [cop, nilB] at h <;> cases h
  case makeFunc f a b => cases f <;> simp only [cop, nilB] at h <;> (repeat' split at h) <;> cases h
  all_goals (simp only [cop, nilB] at h; (repeat' split at h) <;> cases h)
theorem cop_delM {o : Op} {xs : List VX} (h : cop P n o = .more .delM xs) : ∃ t ts m y args argTypes, o = .call { callee := .builtin .delete, args := args, argTypes := argTypes } ∧ args = #[m, y] ∧ argTypes.toList = t :: ts ∧ (mapT P t).isSome = true ∧ xs = [cx n m, cx n y] := by
  cases o
  case call c =>
    obtain ⟨callee, args, argTypes⟩ := c
    cases callee
    case value => simp [cop] at h
    case invoke r name => simp [cop] at h
    case builtin b =>
      cases b
      case delete =>
        simp only [cop] at h
        split at h
        · rename_i m y t h1 h2
          split at h
          · rename_i hc
            simp only [VOp.more.injEq, true_and] at h
            obtain ⟨ts, hts⟩ : ∃ ts, argTypes.toList = t :: ts := by
              cases hl : argTypes.toList with
              | nil => have : argTypes = #[] := by apply Array.ext'; simpa using hl
                       subst this; simp at h2
              | cons a ts =>
                refine ⟨ts, ?_⟩
                have : argTypes[0]? = some a := by rw [← Array.getElem?_toList, hl]; rfl
                rw [this] at h2; cases h2; rfl
            exact ⟨t, ts, m, y, args, argTypes, rfl, by apply Array.ext'; simpa using h1, hts, hc, h.symm⟩
          · cases h
        · cases h
      all_goals (simp only [cop, nilB] at h; (repeat' split at h) <;> cases h)
  case unOp op t x => cases op <;> simp only [cop, nilB] at h <;> cases h
  case makeFunc f a b => cases f <;> simp only [cop, nilB] at h <;> (repeat' split at h) <;> cases h
  all_goals (simp only [cop, nilB] at h; (repeat' split at h) <;> cases h)
theorem run_getO {b : Nat} {es : Array MapEntry} {c : Nat} (h : w.heap[b]? = some (.map es c)) : (getObj b).run P w = .ok (.map es c) w := by simp [getObj, Sem.run, h]
theorem run_setO {b : Nat} {es : Array MapEntry} {c : Nat} (o' : Obj) (h : w.heap[b]? = some (.map es c)) : (setObj b o').run P w = .ok () (w.putObj b o') := by simp [setObj, Sem.run, h, World.putObj]
theorem run_checkI {em : Bool} {t : TypeId} {kk c : IntKind} {m : Int} (h : P.underlying t = some (.int kk)) : (Instr.checkKey em 10000 t (.int c m)).run P w = .ok () w := by
  show (Instr.checkKey em (9999 + 1) t (.int c m)).run P w = .ok () w
  rw [Instr.checkKey]
  simp [run_underlying h]
theorem run_findI {t : TypeId} {kk c : IntKind} {m : Int} (h : P.underlying t = some (.int kk)) {es : List MapEntry} {r : Option (Nat × Value)} (hf : Instr.findNow (.int kk) (.int c m) es 0 = some r) :
    (Instr.findKey t (.int c m) es).run P w = .ok r w := by
  simp [Instr.findKey, run_underlying h, hf]
theorem run_keyStays {c : IntKind} {m : Int} : (Instr.keyThatStays (.int c m) (.int c m)).run P w = .ok (.int c m) w := by
  have : Instr.sameBits 10000 (.int c m) (.int c m) = true := by
    show Instr.sameBits (9999 + 1) (.int c m) (.int c m) = true
    simp [Instr.sameBits]
  simp [Instr.keyThatStays, this]
theorem RepAll.set {ow : Nat → Prop} : ∀ {vs : List V} {l : List Value} {v : V} {x : Value} (j : Nat), RepAll μ ow w vs l → Rep μ ow w v x → RepAll μ ow w (vs.set j v) (l.set j x)
  | [], l, v, x, j, h, hv => by simp only [RepAll] at h; subst h; simp [RepAll]
  | u :: us, l, v, x, 0, h, hv => by
    simp only [RepAll] at h; obtain ⟨y, ys, rfl, h1, h2⟩ := h
    simp only [List.set_cons_zero, RepAll]; exact ⟨x, ys, rfl, hv, h2⟩
  | u :: us, l, v, x, j + 1, h, hv => by
    simp only [RepAll] at h; obtain ⟨y, ys, rfl, h1, h2⟩ := h
    simp only [List.set_cons_succ, RepAll]; exact ⟨y, _, rfl, h1, RepAll.set j h2 hv⟩
theorem RepAll.erase {ow : Nat → Prop} : ∀ {vs : List V} {l : List Value} (j : Nat), RepAll μ ow w vs l → RepAll μ ow w (vs.eraseIdx j) (l.eraseIdx j)
  | [], l, j, h => by simp only [RepAll] at h; subst h; simp [RepAll]
  | u :: us, l, 0, h => by
    simp only [RepAll] at h; obtain ⟨y, ys, rfl, h1, h2⟩ := h
    simpa using h2
  | u :: us, l, j + 1, h => by
    simp only [RepAll] at h; obtain ⟨y, ys, rfl, h1, h2⟩ := h
    simp only [List.eraseIdx_cons_succ, RepAll]; exact ⟨y, _, rfl, h1, RepAll.erase j h2⟩
theorem Runs.mkMap {i : VIns} {l : List VIns} {xs : List VX} (hw : wantV st.s i.g = some true) (ho : i.op = .more .mkMap xs)
    (h : ∀ id, st.σ id = none → Runs P n (.ops l :: k) ⟨putO st.s i.dst (.mp id), upd st.σ id (gh (.map #[] 0) [])⟩ Q) : Runs P n (.ops (i :: l) :: k) st Q := by
  refine Runs.ins (by rw [ho]; simp) hw fun F hn μ a w o all hi hs next Q' hnext => ?_
  subst hn
  obtain ⟨hop, hd⟩ := cins_op hi
  rw [ho] at hop
  obtain ⟨t, h1, _⟩ := cop_mkMap hop
  obtain ⟨id, hid, μ', g1, g2, g3, g4⟩ := hs.sat.newG (.map #[] 0) [] (by simp [RepAll, tmpsOf])
  have hrun : (execOp a.eval o).run P w = .ok (.value (.map (some w.heap.size))) (w.alloc (.map #[] 0)) := by
    unfold execOp
    rw [h1]
    simp [Instr.makeMap]
    all_goals rfl
  unfold Oper.wp
  rw [hrun]
  refine hnext _ _ _ ⟨μ', ?_⟩ (h id hid)
  rw [← hd]
  exact hs.step g3 g2 g4 (by simp) (by simp [Rep, g1])
theorem Runs.lookM {i : VIns} {l : List VIns} {xm xk : VX} {ok : Bool} {zv : V} (hw : wantV st.s i.g = some true) (ho : i.op = .more (.lookM ok zv) [xm, xk]) {id : Nat} {c : IntKind} {f : Int → Option V} {m : Int}
    (hm : xm.ev st.s = .mp id) (hmap : MapIs c st.σ id f) (hk : xk.ev st.s = .int c m)
    (h : Runs P n (.ops l :: k) ⟨putO st.s i.dst (if ok then .tup [(f m).getD zv, .bool (f m).isSome] else (f m).getD zv), st.σ⟩ Q) : Runs P n (.ops (i :: l) :: k) st Q := by
  refine Runs.ins (by rw [ho]; simp) hw fun F hn μ a w o all hi hs next Q' hnext => ?_
  subst hn
  obtain ⟨hop, hd⟩ := cins_op hi
  rw [ho] at hop
  obtain ⟨t, x, y, e, ti, z, g1, g2, g3, rfl, g4⟩ := cop_lookM hop
  simp only [List.cons.injEq, and_true] at g4
  obtain ⟨rfl, rfl⟩ := g4
  obtain ⟨kt, kk, u1, u2⟩ := mapT_some g2
  obtain ⟨es, clock, env, hσ, hrel⟩ := hmap
  have hr := rep_cx hs x
  have hrk := rep_cx hs y
  rw [hm] at hr
  rw [hk] at hrk
  simp only [Rep] at hr hrk
  split at hr
  · rename_i b cap hid
    obtain ⟨hob, henv⟩ := hs.sat.getG hσ hid
    simp only [tmpsOf] at henv
    rcases find_get c kk m es.toList env 0 hrel.len hrel.keys with ⟨q1, q2, q3⟩ | ⟨j, en, v, q1, q2, q3, q4, q5⟩
    · rw [hrel.get m] at q1
      rw [q1] at h
      have hrun : (Instr.lookup t (a.eval x) (a.eval y) ok).run P w = .ok (if ok then .tuple #[z, .bool false] else z) w := by
        simp [Instr.lookup, run_underlying u1, hr, hrk, run_getO hob, run_checkI u2, run_findI u2 q2, run_zeroValue g3]
      have hx : (execOp a.eval o).run P w = .ok (.value (if ok then .tuple #[z, .bool false] else z)) w := by
        unfold execOp
        rw [g1]
        simp [hrun]
      unfold Oper.wp
      rw [hx]
      refine hnext _ _ _ ⟨μ, ?_⟩ h
      rw [← hd]
      have hz : Rep μ (Owned μ st.σ) w (ofValue z) z := Rep_ofValue z
      refine hs.pure ?_
      cases ok
      · simpa using hz
      · simp only [if_true, Option.getD_none, Option.isSome_none, Rep]
        exact ⟨_, rfl, by simp only [RepAll, Rep]; exact ⟨_, _, rfl, hz, _, _, rfl, rfl, rfl⟩⟩
    · rw [hrel.get m] at q4
      rw [q4] at h
      rw [Nat.zero_add] at q5
      have hv : Rep μ (Owned μ st.σ) w v en.val := by
        obtain ⟨x', hx', hrx⟩ := henv.get q2
        rw [List.getElem?_map, q1] at hx'
        simp at hx'
        subst hx'
        exact hrx
      have hrun : (Instr.lookup t (a.eval x) (a.eval y) ok).run P w = .ok (if ok then .tuple #[en.val, .bool true] else en.val) w := by
        simp [Instr.lookup, run_underlying u1, hr, hrk, run_getO hob, run_checkI u2, run_findI u2 q5]
      have hx : (execOp a.eval o).run P w = .ok (.value (if ok then .tuple #[en.val, .bool true] else en.val)) w := by
        unfold execOp
        rw [g1]
        simp [hrun]
      unfold Oper.wp
      rw [hx]
      refine hnext _ _ _ ⟨μ, ?_⟩ h
      rw [← hd]
      refine hs.pure ?_
      cases ok
      · simpa using hv
      · simp only [if_true, Option.getD_some, Option.isSome_some, Rep]
        exact ⟨_, rfl, by simp only [RepAll, Rep]; exact ⟨_, _, rfl, hv, _, _, rfl, rfl, rfl⟩⟩
  · exact hr.elim
end Go.Vc
namespace Go.Vc
open Go.RowKit
variable {P : Program} {n : Nat} {st : St} {Q : St → Prop} {k : List It} {μ : Mu} {w : World}
theorem modify_set {α : Type} {f : α → α} : ∀ (l : List α) (j : Nat) (x : α), l[j]? = some x → l.modify j f = l.set j (f x)
  | [], j, x, h => by simp at h
  | y :: l, 0, x, h => by simp at h; subst h; rfl
  | y :: l, j + 1, x, h => by
    have := modify_set (f := f) l j x (by simpa using h)
    rw [List.modify_succ_cons, List.set_cons_succ, this]
theorem map_erase {α β : Type} {f : α → β} : ∀ (l : List α) (j : Nat), (l.eraseIdx j).map f = (l.map f).eraseIdx j
  | [], j => by simp
  | y :: l, 0 => by simp
  | y :: l, j + 1 => by simp [map_erase l j]
theorem Runs.insM {i : VIns} {l : List VIns} {xm xk xv : VX} (hw : wantV st.s i.g = some true) (ho : i.op = .more .insM [xm, xk, xv]) {id : Nat} {c : IntKind} {f : Int → Option V} {m : Int} {v : V}
    (hm : xm.ev st.s = .mp id) (hmap : MapIs c st.σ id f) (hk : xk.ev st.s = .int c m) (hv : xv.ev st.s = v)
    (h : ∀ ob : Ob, ob.sz = 0 → MapIs c (upd st.σ id ob) id (fun m' => if m' = m then some v else f m') → Runs P n (.ops l :: k) ⟨putO st.s i.dst (.tup []), upd st.σ id ob⟩ Q) : Runs P n (.ops (i :: l) :: k) st Q := by
  refine Runs.ins (by rw [ho]; simp) hw fun F hn μ a w o all hi hs next Q' hnext => ?_
  subst hn
  obtain ⟨hop, hd⟩ := cins_op hi
  rw [ho] at hop
  obtain ⟨t, x, y, z, g1, g2, g4⟩ := cop_insM hop
  simp only [List.cons.injEq, and_true] at g4
  obtain ⟨rfl, rfl, rfl⟩ := g4
  obtain ⟨e, he⟩ := Option.isSome_iff_exists.1 g2
  obtain ⟨kt, kk, u1, u2⟩ := mapT_some he
  obtain ⟨es, clock, env, hσ, hrel⟩ := hmap
  have hr := rep_cx hs x
  have hrk := rep_cx hs y
  have hrv := rep_cx hs z
  rw [hm] at hr
  rw [hk] at hrk
  rw [hv] at hrv
  simp only [Rep] at hr hrk
  split at hr
  · rename_i b cap hid
    obtain ⟨hob, henv⟩ := hs.sat.getG hσ hid
    simp only [tmpsOf] at henv
    have hfin : ∀ (o' : Obj) (env' : List V), (∀ es' clock', o' = .map es' clock' → MapRel c es'.toList env' (fun m' => if m' = m then some v else f m')) → (∃ es' clock', o' = .map es' clock') → RepAll μ (Owned μ st.σ) w env' (tmpsOf o') →
        (Instr.mapUpdate t (a.eval x) (a.eval y) (a.eval z)).run P w = .ok () (w.putObj b o') → o.wp P a w next Q' := by
      intro o' env' hmr hmap' hrep hrun
      have hx : (execOp a.eval o).run P w = .ok .skip (w.putObj b o') := by
        unfold execOp
        rcases g1 with g1 | g1 <;> (rw [g1]; simp [hrun])
      have hset := hs.sat.setG hσ hid o' env' hrep
      obtain ⟨es', clock', rfl⟩ := hmap'
      unfold Oper.wp
      rw [hx]
      refine hnext _ _ _ ⟨μ, ?_⟩ (h (gh (.map es' clock') env') rfl ⟨es', clock', env', upd_same, hmr _ _ rfl⟩)
      rw [← hd]
      exact hs.step hset.1 (MuLe.refl _) hset.2 (by simp) (by simp only [Rep]; exact ⟨[], rfl, by simp [RepAll]⟩)
    rcases find_get c kk m es.toList env 0 hrel.len hrel.keys with ⟨q1, q2, q3⟩ | ⟨j, en, v0, q1, q2, q3, q4, q5⟩
    · refine hfin (.map (es.push { key := .int c m, val := a.eval z, born := clock }) (clock + 1)) (env ++ [v]) (fun es' clock' e => ?_) ⟨_, _, rfl⟩ ?_ ?_
      · cases e
        rw [Array.toList_push]
        exact hrel.push q3 rfl
      · simp only [tmpsOf, Array.toList_push, List.map_append, List.map_cons, List.map_nil]
        exact henv.append (by simp only [RepAll]; exact ⟨_, _, rfl, hrv, rfl⟩)
      · simp [Instr.mapUpdate, run_underlying u1, hr, hrk, run_getO hob, run_checkI u2, run_findI u2 q2, run_setO _ hob]
    · rw [Nat.zero_add] at q5
      refine hfin (.map (es.modify j fun e => { e with key := .int c m, val := a.eval z }) clock) (env.set j v) (fun es' clock' e => ?_) ⟨_, _, rfl⟩ ?_ ?_
      · cases e
        have hl : (es.modify j fun e => { e with key := .int c m, val := a.eval z }).toList = es.toList.set j { en with key := .int c m, val := a.eval z } := by
          rw [Array.toList_modify, modify_set _ _ _ q1]
        rw [hl]
        exact hrel.set q1 q3 rfl
      · have hl : (es.modify j fun e => { e with key := .int c m, val := a.eval z }).toList = es.toList.set j { en with key := .int c m, val := a.eval z } := by
          rw [Array.toList_modify, modify_set _ _ _ q1]
        simp only [tmpsOf, hl, List.map_set]
        exact RepAll.set j henv hrv
      · have hkey : ((es[j]?).map (·.key)).getD (.int c m) = .int c m := by
          rw [← Array.getElem?_toList, q1]; simp [q3]
        simp [Instr.mapUpdate, run_underlying u1, hr, hrk, run_getO hob, run_checkI u2, run_findI u2 q5, run_setO _ hob, hkey, run_keyStays]
  · exact hr.elim
theorem Runs.delM {i : VIns} {l : List VIns} {xm xk : VX} (hw : wantV st.s i.g = some true) (ho : i.op = .more .delM [xm, xk]) {id : Nat} {c : IntKind} {f : Int → Option V} {m : Int}
    (hm : xm.ev st.s = .mp id) (hmap : MapIs c st.σ id f) (hk : xk.ev st.s = .int c m)
    (h : ∀ ob : Ob, ob.sz = 0 → MapIs c (upd st.σ id ob) id (fun m' => if m' = m then none else f m') → Runs P n (.ops l :: k) ⟨putO st.s i.dst (.tup []), upd st.σ id ob⟩ Q) : Runs P n (.ops (i :: l) :: k) st Q := by
  refine Runs.ins (by rw [ho]; simp) hw fun F hn μ a w o all hi hs next Q' hnext => ?_
  subst hn
  obtain ⟨hop, hd⟩ := cins_op hi
  rw [ho] at hop
  obtain ⟨t, ts, x, y, args, argTypes, g1, rfl, g3, g2, g4⟩ := cop_delM hop
  simp only [List.cons.injEq, and_true] at g4
  obtain ⟨rfl, rfl⟩ := g4
  obtain ⟨e, he⟩ := Option.isSome_iff_exists.1 g2
  obtain ⟨kt, kk, u1, u2⟩ := mapT_some he
  obtain ⟨es, clock, env, hσ, hrel⟩ := hmap
  have hr := rep_cx hs x
  have hrk := rep_cx hs y
  rw [hm] at hr
  rw [hk] at hrk
  simp only [Rep] at hr hrk
  have hat : argTypes[0]? = some t := by rw [← Array.getElem?_toList, g3]; rfl
  split at hr
  · rename_i b cap hid
    obtain ⟨hob, henv⟩ := hs.sat.getG hσ hid
    simp only [tmpsOf] at henv
    have hfin : ∀ (o' : Obj) (env' : List V), (∀ es' clock', o' = .map es' clock' → MapRel c es'.toList env' (fun m' => if m' = m then none else f m')) → (∃ es' clock', o' = .map es' clock') → RepAll μ (Owned μ st.σ) w env' (tmpsOf o') →
        (Builtin.delete_ argTypes o.type #[a.eval x, a.eval y]).run P w = .ok (.tuple #[]) (w.putObj b o') → o.wp P a w next Q' := by
      intro o' env' hmr hmap' hrep hrun
      have hx : (execOp a.eval o).run P w = .ok (.value (.tuple #[])) (w.putObj b o') := by
        unfold execOp
        rw [g1]
        simp [resolve, invoke, Go.builtin, hrun]
      have hset := hs.sat.setG hσ hid o' env' hrep
      obtain ⟨es', clock', rfl⟩ := hmap'
      unfold Oper.wp
      rw [hx]
      refine hnext _ _ _ ⟨μ, ?_⟩ (h (gh (.map es' clock') env') rfl ⟨es', clock', env', upd_same, hmr _ _ rfl⟩)
      rw [← hd]
      exact hs.step hset.1 (MuLe.refl _) hset.2 (by simp) (by simp only [Rep]; exact ⟨[], rfl, by simp [RepAll]⟩)
    rcases find_get c kk m es.toList env 0 hrel.len hrel.keys with ⟨q1, q2, q3⟩ | ⟨j, en, v0, q1, q2, q3, q4, q5⟩
    · refine hfin (.map es clock) env (fun es' clock' e => ?_) ⟨_, _, rfl⟩ henv ?_
      · cases e
        refine ⟨hrel.len, hrel.keys, fun m' => ?_, hrel.apart⟩
        rw [hrel.get m']
        split
        · rename_i e; subst e; rw [← hrel.get m', q1]
        · rfl
      · simp [Builtin.delete_, hat, run_underlying u1, hr, hrk, run_getO hob, run_checkI u2, run_findI u2 q2, run_setO _ hob]
    · rw [Nat.zero_add] at q5
      have hl : (es.eraseIdxIfInBounds j).toList = es.toList.eraseIdx j := by simp
      refine hfin (.map (es.eraseIdxIfInBounds j) clock) (env.eraseIdx j) (fun es' clock' e => ?_) ⟨_, _, rfl⟩ ?_ ?_
      · cases e
        rw [hl]
        exact hrel.erase q1 q3
      · simp only [tmpsOf, hl]
        rw [map_erase]
        exact RepAll.erase j henv
      · simp [Builtin.delete_, hat, run_underlying u1, hr, hrk, run_getO hob, run_checkI u2, run_findI u2 q5, run_setO _ hob]
  · exact hr.elim
end Go.Vc
namespace Go.Vc
open Go.Proofs
variable {n : Nat} {k : List It} {Q : St → Prop}
def plainS : List Int := [0, 0, 0, 0, 0, 2, 2, 0, 0, 0, 0, 0]
theorem plain_c : PFun Tryz.prog 57 [] (.agg [.int .i64 0, .int .i64 0, .int .i64 0, .int .i64 0, .int .i64 0, .int .i64 2, .int .i64 2, .int .i64 0, .int .i64 0, .int .i64 0, .int .i64 0, .int .i64 0]) := fun σ => by
  refine Contract.of_runs Tryz.func57 e57 k57 (by simp [c57]) ?_
  (refine Runs.of_step Orc.nothing 300 ?_; simp -implicitDefEqProofs only [BB,seval,← decide_not,okind,vpre,vpure,intBin,intPre,strBin,strPre,popTo,argSlots,fldV,fldAV,subCells,idxVV,idxAAV,idxSV,sliceV,sliceSV,boundV,szIs,storeOp,storeS,setRowV,eff,extV,buildV,splice,eqSV,fitsL,eqCells,eqCell,minmaxV,capV,binBV,nilCheckV,bytesV,V.cells,V.stays,Orc.nothing,c57])
  refine effR_new fun id0 σ0 s0 a0 f0 => ?_
  simp -implicitDefEqProofs only [BB,seval,← decide_not,okind,vpre,vpure,intBin,intPre,strBin,strPre,popTo,argSlots,fldV,fldAV,subCells,idxVV,idxAAV,idxSV,sliceV,sliceSV,boundV,szIs,storeOp,storeS,setRowV,eff,extV,buildV,splice,eqSV,fitsL,eqCells,eqCell,minmaxV,capV,binBV,nilCheckV,bytesV,V.cells,V.stays,a0]
  exact .pure (s0.updK f0) rfl
theorem Runs.freezeP {P : Program} {n : Nat} {k : List It} {Q : St → Prop} {s : Nat → V} {σ σ' : Store} (d : Nat) {id : Nat} {e sz : Nat} {r : V} (h : SubStore σ' σ) (ho : σ id = some ⟨e, sz, [r]⟩) (hid : σ' id = none) (hs : s d = .ptr id 0 0)
    (hr : Runs P n k ⟨putO s (some d) (.rp r), σ'⟩ Q) : Runs P n k ⟨s, σ⟩ Q := by
  refine Runs.weaken ⟨h, fun i => ?_⟩ hr
  show Wk σ σ' (s i) _
  by_cases hi : i = d
  · simp only [putO,hi,if_true]
    rw [hs]
    exact Wk.ptr h ho hid
  · simp only [putO,hi,if_false]
    exact Wk.refl h _
theorem entry {S : Nat → V} {σ : Store} {l : List VIns} {id i3 im : Nat} {f : Int → Option V} (d1 d2 d3 j : Nat) (a b c : Int) (h1 : 10 < d1) (h2 : 10 < d2) (h3 : 10 < d3) (n12 : d1 ≠ d2) (g4 : S 4 = .fn 67 [.rp (.ptr id 0 0)]) (g3 : S 3 = .ptr i3 0 0) (g10 : S 10 = .mp im)
    (hm : MapIs .i32 σ im f)
    (h : ∀ S' ob, (∀ i, i ≤ 10 → S' i = S i) → ob.sz = 0 → MapIs .i32 (upd σ im ob) im (fun m' => if m' = c then some (numF id i3 j a b) else f m') → Runs Tryz.prog n (.ops l :: k) ⟨S', upd σ im ob⟩ Q) :
    Runs Tryz.prog n (.ops (⟨some d1, .mov (.t 4), none⟩ :: ⟨some d2, .fldA false j 1 (.t 3), none⟩ :: ⟨some d3, .call (.t d1) [.t d2, .c (.int .i64 a), .c (.int .i64 b)], none⟩ :: ⟨none, .more .insM [.t 10, .c (.int .i32 c), .t d3], none⟩ :: l) :: k) ⟨S, σ⟩ Q := by
  have e1 : d1 ≠ 10 := by omega
  have e2 : d2 ≠ 10 := by omega
  have e3 : d3 ≠ 10 := by omega
  have e4 : (3 : Nat) ≠ d1 := by omega
  refine Runs.pure (v := .fn 67 [.rp (.ptr id 0 0)]) rfl trivial (by simp [vpure, VX.ev, g4]) ?_
  refine Runs.pure (v := .ptr i3 0 j) rfl trivial ?_ ?_
  · simp [vpure, VX.ev, fldAV, St.put, putO, e4, g3]
  refine Runs.pcall (f := 67) (caps := [.rp (.ptr id 0 0)]) (v := numF id i3 j a b) rfl rfl ?_ ?_ ?_
  · simp [VX.ev, St.put, putO, n12]
  · have := numf_c id i3 j a b σ
    simpa [VX.ev, St.put, putO] using this
  refine Runs.insM (id := im) (c := .i32) (f := f) (m := c) (v := numF id i3 j a b) rfl rfl ?_ hm rfl ?_ ?_
  · simp [VX.ev, St.put, putO, e1.symm, e2.symm, e3.symm, g10]
  · simp [VX.ev, putO]
  intro ob hz hm'
  refine h _ ob (fun i hi => ?_) hz hm'
  have q1 : i ≠ d1 := by omega
  have q2 : i ≠ d2 := by omega
  have q3 : i ≠ d3 := by omega
  simp [St.put, putO, q1, q2, q3]
def entOps : Nat → List (Nat × Int × Int × Int) → List VIns → List VIns
  | _, [], l => l
  | d, (j, a, b, c) :: tb, l => ⟨some d, .mov (.t 4), none⟩ :: ⟨some (d + 1), .fldA false j 1 (.t 3), none⟩ :: ⟨some (d + 2), .call (.t d) [.t (d + 1), .c (.int .i64 a), .c (.int .i64 b)], none⟩ :: ⟨none, .more .insM [.t 10, .c (.int .i32 c), .t (d + 2)], none⟩ :: entOps (d + 3) tb l
def entF (id i3 : Nat) (f : Int → Option V) : List (Nat × Int × Int × Int) → Int → Option V
  | [] => f
  | (j, a, b, c) :: tb => entF id i3 (fun m => if m = c then some (numF id i3 j a b) else f m) tb
theorem entries {l : List VIns} {id i3 im : Nat} : ∀ (tb : List (Nat × Int × Int × Int)) (d : Nat) (S : Nat → V) (σ : Store) (f : Int → Option V), 10 < d → S 4 = .fn 67 [.rp (.ptr id 0 0)] → S 3 = .ptr i3 0 0 → S 10 = .mp im → MapIs .i32 σ im f →
    (∀ S' σ', (∀ i, i ≤ 10 → S' i = S i) → (∀ q, q ≠ im → σ' q = σ q) → MapIs .i32 σ' im (entF id i3 f tb) → Runs Tryz.prog n (.ops l :: k) ⟨S', σ'⟩ Q) →
    Runs Tryz.prog n (.ops (entOps d tb l) :: k) ⟨S, σ⟩ Q
  | [], d, S, σ, f, hd, g4, g3, g10, hm, h => h S σ (fun _ _ => rfl) (fun _ _ => rfl) hm
  | (j, a, b, c) :: tb, d, S, σ, f, hd, g4, g3, g10, hm, h => by
    refine entry d (d + 1) (d + 2) j a b c hd (by omega) (by omega) (by omega) g4 g3 g10 hm fun S1 ob e1 z1 m1 => ?_
    refine entries tb (d + 3) S1 _ _ (by omega) ((e1 4 (by omega)).trans g4) ((e1 3 (by omega)).trans g3) ((e1 10 (by omega)).trans g10) m1 fun S' σ' q1 q2 q3 => ?_
    exact h S' σ' (fun i hi => (q1 i hi).trans (e1 i hi)) (fun q hq => (q2 q hq).trans (upd_ne hq)) q3
end Go.Vc
namespace Go.Vc
open Go.Proofs
abbrev MX : Int := 1099511627776
def spec (c : Int) : Option (Nat × Int × Int) :=
  if c = 99 then some (11, 0, 3) else if c = 73 then some (10, 0, 1) else if c = 65 then some (9, 0, 4) else if c = 66 then some (8, 0, 4) else if c = 104 then some (7, 1, MX) else if c = 119 then some (6, 1, MX) else if c = 111 then some (5, 1, MX)
  else if c = 105 then some (4, 0, MX) else if c = 113 then some (3, 0, MX) else if c = 112 then some (2, 0, MX) else if c = 110 then some (1, 0, MX) else if c = 109 then some (0, 0, MX) else none
theorem ite_lt {p : Prop} [Decidable p] {x : Nat × Int × Int} {o : Option (Nat × Int × Int)} {k : Nat} {a b : Int} (h : (if p then some x else o) = some (k, a, b)) (h1 : x.1 < 12) (h2 : o = some (k, a, b) → k < 12) : k < 12 := by
  split at h
  · simp only [Option.some.injEq] at h; subst h; exact h1
  · exact h2 h
theorem spec_lt {c : Int} {k : Nat} {a b : Int} (h : spec c = some (k, a, b)) : k < 12 := ite_lt h (by decide) <| fun h => ite_lt h (by decide) fun h => ite_lt h (by decide) fun h => ite_lt h (by decide) fun h => ite_lt h (by decide) fun h => ite_lt h (by decide) fun h => ite_lt h (by decide) fun h => ite_lt h (by decide) fun h => ite_lt h (by decide) fun h => ite_lt h (by decide) fun h => ite_lt h (by decide) fun h => ite_lt h (by decide) fun h => by cases h
def mapF (id i3 : Nat) (av : Int → Bool) (c : Int) : Option V := if av c then (spec c).map fun q => numF id i3 q.1 q.2.1 q.2.2 else none
def attrsR (av : Int → Bool) (s : List Int) : List Tk → List Int × List Tk × Bool
  | [] => (s, [], false)
  | t :: r => if t.kind = 1 then match (if av t.sign then spec t.sign else none) with
      | none => (s, t :: r, false)
      | some (k, a, b) => match r with
        | [] => (s.set k 0, [], true)
        | u :: r' => if numB a b (u :: r') then attrsR (fun c => if c = t.sign then false else av c) (s.set k u.n) r' else (s.set k 0, u :: r', true)
    else (s, t :: r, false)
def attrsT (av : Int → Bool) (s : List Int) (l : List Tk) (w : Bool) : List Int × List Tk × Bool := if w then (s, l, true) else attrsR av s l
theorem attrsT_step {av : Int → Bool} {s : List Int} {t : Tk} {r : List Tk} {k : Nat} {a b : Int} (h1 : t.kind = 1) (h2 : av t.sign = true) (h3 : spec t.sign = some (k, a, b)) :
    attrsR av s (t :: r) = attrsT (fun c => if c = t.sign then false else av c) (s.set k (countR a b r false).1) (countR a b r false).2.1 (countR a b r false).2.2 := by
  cases r with
  | nil => simp [attrsR, h1, h2, h3, countR, attrsT]
  | cons u r =>
    rw [attrsR]
    simp only [h1,h2,h3,if_true,countR,Bool.false_or]
    cases hb : numB a b (u :: r) <;> simp [attrsT]
theorem loadV_rp_ptr (σ : Store) (sz id i k : Nat) : loadV σ false sz (.rp (.ptr id i k)) = some (.ptr id i k) := rfl
theorem bne_tf : (true != false) = true := rfl
theorem bne_ff : (false != false) = false := rfl
structure AInv (σ0 σ : Store) (id i3 im i2 : Nat) (av : Int → Bool) (s : List Int) (l : List Tk) (w : Bool) : Prop where
  mp : MapIs .i32 σ im (mapF id i3 av)
  rd : σ id = some (rdr l w)
  st : σ i3 = some (styO s)
  two : ∃ z, σ i2 = some ⟨55, 12, [.agg z]⟩ ∧ z.length = 12
  len : s.length = 12
  fr : σ0 im = none ∧ σ0 i3 = none ∧ σ0 i2 = none ∧ i2 ≠ i3
  sub : SubStore (upd σ0 id (rdr l w)) σ
theorem map_ite {α β : Type} {p : Prop} [Decidable p] (g : α → β) (x : α) (o : Option α) : (if p then some x else o).map g = if p then some (g x) else o.map g := by split <;> rfl
theorem tblF (id id3 : Nat) : entF id id3 (fun _ => none) [(0, 0, MX, 109), (1, 0, MX, 110), (2, 0, MX, 112), (3, 0, MX, 113), (4, 0, MX, 105), (5, 1, MX, 111), (6, 1, MX, 119), (7, 1, MX, 104), (8, 0, 4, 66), (9, 0, 4, 65), (10, 0, 1, 73), (11, 0, 3, 99)] = mapF id id3 (fun _ => true) := by
  funext c
  unfold mapF spec
  rw [if_pos rfl, map_ite, map_ite, map_ite, map_ite, map_ite, map_ite, map_ite, map_ite, map_ite, map_ite, map_ite, map_ite]
  rfl
set_option maxRecDepth 100000 in
theorem attrs_c {σ : Store} {id : Nat} {l : List Tk} {w : Bool} (h : σ id = some (rdr l w)) : Contract Tryz.prog 52 [.ptr id 0 0] σ fun r σ' =>
    r = .agg ((attrsT (fun _ => true) plainS l w).1.map vI) ∧ σ' = upd σ id (rdr (attrsT (fun _ => true) plainS l w).2.1 (attrsT (fun _ => true) plainS l w).2.2) := by
  refine Contract.of_runs Tryz.func52 e52 k52 (by simp [c52]) ?_
  refine Runs.mix 9 ?_
  (refine Runs.of_step Orc.nothing 3 ?_; simp -implicitDefEqProofs only [BB,seval,← decide_not,okind,vpre,vpure,intBin,intPre,strBin,strPre,popTo,argSlots,fldV,fldAV,subCells,idxVV,idxAAV,idxSV,sliceV,sliceSV,boundV,szIs,storeOp,storeS,setRowV,eff,extV,buildV,splice,eqSV,fitsL,eqCells,eqCell,minmaxV,capV,binBV,nilCheckV,bytesV,V.cells,V.stays,s_zero,Orc.nothing,c52])
  refine effR_new fun id1 σ1 s1 a1 f1 => ?_
  rw [s_zero]
  refine Runs.freezeP 1 s1 a1 f1 (by rfl) ?_
  (refine Runs.of_step Orc.nothing 300 ?_; simp -implicitDefEqProofs only [BB,seval,← decide_not,okind,vpre,vpure,intBin,intPre,strBin,strPre,popTo,argSlots,fldV,fldAV,subCells,idxVV,idxAAV,idxSV,sliceV,sliceSV,boundV,szIs,storeOp,storeS,setRowV,eff,extV,buildV,splice,eqSV,fitsL,eqCells,eqCell,minmaxV,capV,binBV,nilCheckV,bytesV,V.cells,V.stays,Orc.nothing])
  refine effR_new fun id2 σ2 s2 a2 f2 => ?_
  simp -implicitDefEqProofs only [BB,seval,← decide_not,okind,vpre,vpure,intBin,intPre,strBin,strPre,popTo,argSlots,fldV,fldAV,subCells,idxVV,idxAAV,idxSV,sliceV,sliceSV,boundV,szIs,storeOp,storeS,setRowV,eff,extV,buildV,splice,eqSV,fitsL,eqCells,eqCell,minmaxV,capV,binBV,nilCheckV,bytesV,V.cells,V.stays]
  refine Runs.pcall rfl rfl rfl (plain_c _) ?_
  (refine Runs.of_step Orc.nothing 300 ?_; simp -implicitDefEqProofs only [BB,seval,← decide_not,okind,vpre,vpure,intBin,intPre,strBin,strPre,popTo,argSlots,fldV,fldAV,subCells,idxVV,idxAAV,idxSV,sliceV,sliceSV,boundV,szIs,storeOp,storeS,setRowV,eff,extV,buildV,splice,eqSV,fitsL,eqCells,eqCell,minmaxV,capV,binBV,nilCheckV,bytesV,V.cells,V.stays,Orc.nothing])
  refine effR_new fun id3 σ3 s3 a3 f3 => ?_
  simp -implicitDefEqProofs only [BB,seval,← decide_not,okind,vpre,vpure,intBin,intPre,strBin,strPre,popTo,argSlots,fldV,fldAV,subCells,idxVV,idxAAV,idxSV,sliceV,sliceSV,boundV,szIs,storeOp,storeS,setRowV,eff,extV,buildV,splice,eqSV,fitsL,eqCells,eqCell,minmaxV,capV,binBV,nilCheckV,bytesV,V.cells,V.stays,a3]
  refine Runs.mkMap rfl rfl fun im fm => ?_
  generalize hSS : (putO _ (some 10) (V.mp im)) = S
  generalize hσσ : upd _ im _ = σ4
  have g0 : S 0 = .ptr id 0 0 := by rw [← hSS]; rfl
  have g1 : S 1 = .rp (.ptr id 0 0) := by rw [← hSS]; rfl
  have g2 : S 2 = .ptr id2 0 0 := by rw [← hSS]; rfl
  have g3 : S 3 = .ptr id3 0 0 := by rw [← hSS]; rfl
  have g4 : S 4 = .fn 67 [.rp (.ptr id 0 0)] := by rw [← hSS]; rfl
  have g10 : S 10 = .mp im := by rw [← hSS]; rfl
  clear hSS
  have hσσ : upd (upd σ3 id3 _) im _ = σ4 := hσσ
  have fm : upd σ3 id3 _ im = none := fm
  have n23 : id2 ≠ id3 := ne_new a2 f3
  have hfm : im ≠ id3 ∧ σ3 im = none := upd_none.1 fm
  have r3 : σ3 id = some (rdr l w) := s3 _ _ (s2 _ _ h)
  have k3 : id ≠ id3 := ne_new (s2 _ _ h) f3
  have k4 : id ≠ im := ne_new r3 hfm.2
  have hf3 : σ id3 = none := s2.none f3
  have hfi : σ im = none := (s2.trans s3).none hfm.2
  have hm0 : MapIs .i32 σ4 im (fun _ => none) := ⟨#[], 0, [], by rw [← hσσ]; exact upd_same, ⟨rfl, by simp, fun m => rfl, by simp⟩⟩
  have n2m : id2 ≠ im := ne_new (s3 _ _ a2) hfm.2
  refine entries (l := [⟨some 47, .mov (.t 10), none⟩, ⟨some 5, .mov (.t 47), none⟩])
    [(0, 0, MX, 109), (1, 0, MX, 110), (2, 0, MX, 112), (3, 0, MX, 113), (4, 0, MX, 105), (5, 1, MX, 111), (6, 1, MX, 119), (7, 1, MX, 104), (8, 0, 4, 66), (9, 0, 4, 65), (10, 0, 1, 73), (11, 0, 3, 99)] 11 S σ4 (fun _ => none) (by omega) g4 g3 g10 hm0 fun S5 σ5 e5 q5 m5 => ?_
  rw [tblF] at m5
  have hσ4 : ∀ q, q ≠ im → q ≠ id3 → σ5 q = σ3 q := fun q h1 h2 => by rw [q5 q h1, ← hσσ, upd_ne h1, upd_ne h2]
  have inv0 : AInv σ σ5 id id3 im id2 (fun _ => true) plainS l w := {
    mp := m5
    rd := by rw [hσ4 _ k4 k3]; exact r3
    st := by rw [q5 _ (Ne.symm hfm.1), ← hσσ, upd_ne (Ne.symm hfm.1), upd_same]; rfl
    two := ⟨_, by rw [hσ4 _ n2m n23]; exact s3 _ _ a2, rfl⟩
    len := rfl
    fr := ⟨hfi, hf3, f2, n23⟩
    sub := fun q o hq => by
      have hq' : σ q = some o := by
        unfold Vc.upd at hq
        split at hq
        · rename_i e; subst e; rw [← hq]; exact h
        · exact hq
      have h1 : q ≠ im := ne_new hq' hfi
      have h2 : q ≠ id3 := ne_new hq' hf3
      rw [hσ4 _ h1 h2]
      exact s3 _ _ (s2 _ _ hq') }
  have p1 : S5 1 = .rp (.ptr id 0 0) := (e5 1 (by omega)).trans g1
  have p2 : S5 2 = .ptr id2 0 0 := (e5 2 (by omega)).trans g2
  have p3 : S5 3 = .ptr id3 0 0 := (e5 3 (by omega)).trans g3
  have p10 : S5 10 = .mp im := (e5 10 (by omega)).trans g10
  refine Runs.mix 9 ?_
  (refine Runs.of_step Orc.nothing 300 ?_; simp -implicitDefEqProofs only [BB,seval,effR_some,effD_some,← decide_not,okind,vpre,vpure,intBin,intPre,strBin,strPre,popTo,argSlots,fldV,fldAV,subCells,idxVV,idxAAV,idxSV,sliceV,sliceSV,boundV,szIs,storeOp,storeS,setRowV,eff,extV,buildV,splice,eqSV,fitsL,eqCells,eqCell,minmaxV,capV,binBV,nilCheckV,bytesV,V.cells,V.stays,Orc.nothing,p10])
  refine Runs.loop (fun m st => ∃ av s l1 w1, m = l1.length ∧ attrsT (fun _ => true) plainS l w = attrsT av s l1 w1 ∧ AInv σ st.σ id id3 im id2 av s l1 w1 ∧ st.s 1 = .rp (.ptr id 0 0) ∧ st.s 2 = .ptr id2 0 0 ∧ st.s 3 = .ptr id3 0 0 ∧ st.s 5 = .mp im) l.length ⟨_, _, _, _, rfl, rfl, inv0, p1, p2, p3, rfl⟩ ?_
  rintro m ⟨S, σ6⟩ ⟨av, s, l1, w1, rfl, hT, inv, p1, p2, p3, p5⟩
  simp only at inv p1 p2 p3 p5
  rw [hT]
  refine Runs.mix 9 ?_
  have rd := inv.rd
  have st3 := inv.st
  obtain ⟨z, hz2, hzl⟩ := inv.two
  obtain ⟨fm, f3, f2, n23⟩ := inv.fr
  have hcl : (s.map vI).length = 12 := by simp [inv.len]
  have hid : σ id2 = none := by assumption
  have nid : id2 ≠ id := fun e => by rw [e, h] at hid; cases hid
  have fin : attrsT av s l1 w1 = (s, l1, w1) → RetV (.agg (s.map vI)) (upd σ6 id2 ⟨55, 12, [.agg (s.map vI)]⟩) fun r σ' => r = .agg ((attrsT av s l1 w1).1.map vI) ∧ σ' = upd σ id (rdr (attrsT av s l1 w1).2.1 (attrsT av s l1 w1).2.2) := by
    intro hA
    rw [hA]
    have hs : SubStore (upd σ id (rdr l1 w1)) (upd σ6 id2 ⟨55, 12, [.agg (s.map vI)]⟩) := inv.sub.updK (by rw [upd_ne nid]; exact hid)
    exact ⟨_, _, hs, Wk.refl hs _, rfl, rfl⟩
  cases w1 with
  | true =>
    (refine Runs.of_step Orc.nothing 300 ?_; simp -implicitDefEqProofs only [BB,seval,effR_some,effD_some,← decide_not,okind,vpre,vpure,intBin,intPre,strBin,strPre,popTo,argSlots,fldV,fldAV,subCells,idxVV,idxAAV,idxSV,sliceV,sliceSV,boundV,szIs,storeOp,storeS,setRowV,eff,extV,buildV,splice,eqSV,fitsL,eqCells,eqCell,minmaxV,capV,binBV,nilCheckV,bytesV,V.cells,V.stays,Orc.nothing,p1,p2,p3,p5,rd,loadV_rp_ptr,st3,hz2,hzl,hcl,V.cells_agg])
    exact fin rfl
  | false =>
    cases l1 with
    | nil =>
      have rd : σ6 id = some ⟨40, 2, [.agg [.sl 4 [], .bool false]]⟩ := rd
      (refine Runs.of_step Orc.nothing 300 ?_; simp -implicitDefEqProofs only [BB,seval,effR_some,effD_some,← decide_not,okind,vpre,vpure,intBin,intPre,strBin,strPre,popTo,argSlots,fldV,fldAV,subCells,idxVV,idxAAV,idxSV,sliceV,sliceSV,boundV,szIs,storeOp,storeS,setRowV,eff,extV,buildV,splice,eqSV,fitsL,eqCells,eqCell,minmaxV,capV,binBV,nilCheckV,bytesV,V.cells,V.stays,Orc.nothing,p1,p2,p3,p5,rd,loadV_rp_ptr,st3,hz2,hzl,hcl,V.cells_agg,len0])
      exact fin rfl
    | cons t r =>
      have rd : σ6 id = some ⟨40, 2, [.agg [.sl 4 (encT t :: r.map encT), .bool false]]⟩ := rd
      by_cases hk : t.kind = 1
      · have hk' : decide (t.kind = 1) = true := by simp [hk]
        (refine Runs.of_step Orc.nothing 300 ?_; simp -implicitDefEqProofs only [BB,seval,effR_some,effD_some,← decide_not,okind,vpre,vpure,intBin,intPre,strBin,strPre,popTo,argSlots,fldV,fldAV,subCells,idxVV,idxAAV,idxSV,sliceV,sliceSV,boundV,szIs,storeOp,storeS,setRowV,eff,extV,buildV,splice,eqSV,fitsL,eqCells,eqCell,minmaxV,capV,binBV,nilCheckV,bytesV,V.cells,V.stays,Orc.nothing,p1,p2,p3,p5,rd,loadV_rp_ptr,len1,idx0,hk'])
        refine Runs.lookM (id := im) (c := .i32) (m := t.sign) (f := mapF id id3 av) rfl rfl rfl inv.mp rfl ?_
        cases hq : (if av t.sign then spec t.sign else none) with
        | none =>
          have hf : mapF id id3 av t.sign = none := by
            unfold mapF
            split at hq
            · rename_i ha; rw [if_pos ha, hq]; rfl
            · rename_i ha; rw [if_neg ha]
          rw [hf]
          (refine Runs.of_step Orc.nothing 6 ?_; simp -implicitDefEqProofs only [BB,seval,← decide_not,okind,vpre,vpure,intBin,intPre,strBin,strPre,popTo,argSlots,fldV,fldAV,subCells,idxVV,idxAAV,idxSV,sliceV,sliceSV,boundV,szIs,storeOp,storeS,setRowV,eff,extV,buildV,splice,eqSV,fitsL,eqCells,eqCell,minmaxV,capV,binBV,nilCheckV,bytesV,V.cells,V.stays,s_zero,Orc.nothing])
          refine Runs.nilF rfl rfl (b := true) (.inl ⟨rfl, rfl⟩) ?_
          (refine Runs.of_step Orc.nothing 300 ?_; simp -implicitDefEqProofs only [BB,seval,effR_some,effD_some,← decide_not,okind,vpre,vpure,intBin,intPre,strBin,strPre,popTo,argSlots,fldV,fldAV,subCells,idxVV,idxAAV,idxSV,sliceV,sliceSV,boundV,szIs,storeOp,storeS,setRowV,eff,extV,buildV,splice,eqSV,fitsL,eqCells,eqCell,minmaxV,capV,binBV,nilCheckV,bytesV,V.cells,V.stays,Orc.nothing,p2,p3,st3,hz2,hzl,hcl,V.cells_agg,bne_tf])
          exact fin (by rw [attrsT, attrsR]; simp [hk, hq])
        | some q =>
          obtain ⟨kk, a, b⟩ := q
          have hav : av t.sign = true := by
            cases h : av t.sign with
            | true => rfl
            | false => rw [h] at hq; cases hq
          have hsp : spec t.sign = some (kk, a, b) := by rw [hav] at hq; exact hq
          have hf : mapF id id3 av t.sign = some (numF id id3 kk a b) := by
            unfold mapF
            rw [if_pos hav, hsp]; rfl
          rw [hf]
          (refine Runs.of_step Orc.nothing 6 ?_; simp -implicitDefEqProofs only [BB,seval,← decide_not,okind,vpre,vpure,intBin,intPre,strBin,strPre,popTo,argSlots,fldV,fldAV,subCells,idxVV,idxAAV,idxSV,sliceV,sliceSV,boundV,szIs,storeOp,storeS,setRowV,eff,extV,buildV,splice,eqSV,fitsL,eqCells,eqCell,minmaxV,capV,binBV,nilCheckV,bytesV,V.cells,V.stays,s_zero,Orc.nothing])
          refine Runs.nilF rfl rfl (b := false) (.inr ⟨_, _, rfl, rfl⟩) ?_
          (refine Runs.of_step Orc.nothing 300 ?_; simp -implicitDefEqProofs only [BB,seval,effR_some,effD_some,← decide_not,okind,vpre,vpure,intBin,intPre,strBin,strPre,popTo,argSlots,fldV,fldAV,subCells,idxVV,idxAAV,idxSV,sliceV,sliceSV,boundV,szIs,storeOp,storeS,setRowV,eff,extV,buildV,splice,eqSV,fitsL,eqCells,eqCell,minmaxV,capV,binBV,nilCheckV,bytesV,V.cells,V.stays,Orc.nothing,p5,bne_ff])
          refine Runs.delM (id := im) (c := .i32) (m := t.sign) (f := mapF id id3 av) rfl rfl rfl inv.mp rfl fun ob hz0 hm2 => ?_
          have km : id ≠ im := fun e => by rw [← e, h] at fm; cases fm
          have k3m : id3 ≠ im := inv.mp.ne st3 (by decide)
          have k2m : id2 ≠ im := inv.mp.ne hz2 (by decide)
          have k3d : id3 ≠ id := fun e => by rw [e, h] at f3; cases f3
          (refine Runs.of_step Orc.nothing 300 ?_; simp -implicitDefEqProofs only [BB,seval,effR_some,effD_some,← decide_not,okind,vpre,vpure,intBin,intPre,strBin,strPre,popTo,argSlots,fldV,fldAV,subCells,idxVV,idxAAV,idxSV,sliceV,sliceSV,boundV,szIs,storeOp,storeS,setRowV,eff,extV,buildV,splice,eqSV,fitsL,eqCells,eqCell,minmaxV,capV,binBV,nilCheckV,bytesV,V.cells,V.stays,Orc.nothing,p1,loadV_rp_ptr])
          refine Runs.call rfl rfl rfl (take_c (l := t :: r) (w := false) t.sign (by show upd σ6 im ob id = _; rw [upd_ne km]; exact rd)) ?_
          rintro r1 σ7 ⟨rfl, hσ7⟩
          have htk : takeR t.sign (t :: r) false = (r, false) := by simp [takeR, signB, hk]
          rw [htk] at hσ7
          have hσ7 : σ7 = upd (upd σ6 im ob) id (rdr r false) := hσ7
          (refine Runs.of_step Orc.nothing 300 ?_; simp -implicitDefEqProofs only [BB,seval,effR_some,effD_some,← decide_not,okind,vpre,vpure,intBin,intPre,strBin,strPre,popTo,argSlots,fldV,fldAV,subCells,idxVV,idxAAV,idxSV,sliceV,sliceSV,boundV,szIs,storeOp,storeS,setRowV,eff,extV,buildV,splice,eqSV,fitsL,eqCells,eqCell,minmaxV,capV,binBV,nilCheckV,bytesV,V.cells,V.stays,Orc.nothing])
          have h7 : σ7 id = some (rdr r false) := by rw [hσ7]; exact upd_same
          have h73 : σ7 id3 = some (styO s) := by rw [hσ7, upd_ne k3d, upd_ne k3m]; exact st3
          refine Runs.call rfl rfl rfl (app_c a b h7 h73 k3d (by rw [inv.len]; exact spec_lt hsp) inv.len) ?_
          rintro r2 σ8 ⟨rfl, hσ8⟩
          have hσ8 : σ8 = upd (upd σ7 id (rdr (countR a b r false).2.1 (countR a b r false).2.2)) id3 (styO (s.set kk (countR a b r false).1)) := hσ8
          have hm2 : MapIs .i32 (upd σ6 im ob) im (fun m' => if m' = t.sign then none else mapF id id3 av m') := hm2
          (refine Runs.of_step Orc.nothing 300 ?_; simp -implicitDefEqProofs only [BB,seval,effR_some,effD_some,← decide_not,okind,vpre,vpure,intBin,intPre,strBin,strPre,popTo,argSlots,fldV,fldAV,subCells,idxVV,idxAAV,idxSV,sliceV,sliceSV,boundV,szIs,storeOp,storeS,setRowV,eff,extV,buildV,splice,eqSV,fitsL,eqCells,eqCell,minmaxV,capV,binBV,nilCheckV,bytesV,V.cells,V.stays,Orc.nothing,p1,p2,p3,p5])
          have hlen : (countR a b r false).2.1.length ≤ r.length := by
            cases r with
            | nil => simp [countR]
            | cons u r => simp only [countR]; split <;> simp
          refine ⟨_, Nat.lt_succ_of_le hlen, (fun c => if c = t.sign then false else av c), s.set kk (countR a b r false).1, (countR a b r false).2.1, (countR a b r false).2.2, rfl, ?_, ?_⟩
          · show attrsR av s (t :: r) = _
            exact attrsT_step hk hav hsp
          · have e8 : ∀ q, q ≠ id → q ≠ id3 → q ≠ im → σ8 q = σ6 q := fun q h1 h2 h3 => by rw [hσ8, upd_ne h2, upd_ne h1, hσ7, upd_ne h1]; rw [upd_ne h3]
            exact {
              mp := by
                obtain ⟨es, clock, env, g1, g2⟩ := hm2
                have hfe : (fun m' => if m' = t.sign then none else mapF id id3 av m') = mapF id id3 (fun c => if c = t.sign then false else av c) := by
                  funext c
                  unfold mapF
                  by_cases hc : c = t.sign
                  · simp [hc]
                  · simp [hc]
                rw [hfe] at g2
                refine ⟨es, clock, env, ?_, g2⟩
                rw [hσ8, upd_ne (Ne.symm k3m), upd_ne (Ne.symm km), hσ7, upd_ne (Ne.symm km)]
                exact g1
              rd := by rw [hσ8, upd_ne (Ne.symm k3d), upd_same]
              st := by rw [hσ8, upd_same]
              two := ⟨z, by rw [e8 _ nid n23 k2m]; exact hz2, hzl⟩
              len := by rw [List.length_set]; exact inv.len
              fr := ⟨fm, f3, f2, n23⟩
              sub := fun q o ho => by
                by_cases hqi : q = id
                · subst hqi
                  rw [upd_same] at ho
                  rw [hσ8, upd_ne (Ne.symm k3d), upd_same]
                  exact ho
                · rw [upd_ne hqi] at ho
                  rw [e8 q hqi (fun e => by rw [e, f3] at ho; cases ho) (fun e => by rw [e, fm] at ho; cases ho)]
                  exact inv.sub _ _ (by rw [upd_ne hqi]; exact ho) }
      · have hk' : decide (t.kind = 1) = false := by simp [hk]
        (refine Runs.of_step Orc.nothing 300 ?_; simp -implicitDefEqProofs only [BB,seval,effR_some,effD_some,← decide_not,okind,vpre,vpure,intBin,intPre,strBin,strPre,popTo,argSlots,fldV,fldAV,subCells,idxVV,idxAAV,idxSV,sliceV,sliceSV,boundV,szIs,storeOp,storeS,setRowV,eff,extV,buildV,splice,eqSV,fitsL,eqCells,eqCell,minmaxV,capV,binBV,nilCheckV,bytesV,V.cells,V.stays,Orc.nothing,p1,p2,p3,p5,rd,loadV_rp_ptr,st3,hz2,hzl,hcl,V.cells_agg,len1,idx0,hk'])
        exact fin (by rw [attrsT, attrsR]; simp [hk])
end Go.Vc
namespace Go.Vc
open Go.Proofs
def Off (id : Nat) (σ τ : Store) : Prop := ∀ q, q ≠ id → ∀ o, σ q = some o → τ q = some o
theorem Off.refl (id : Nat) (σ : Store) : Off id σ σ := fun _ _ _ h => h
theorem Off.sub {id : Nat} {σ τ τ' : Store} (h : Off id σ τ) (hs : SubStore τ τ') : Off id σ τ' := fun q hq o ho => hs _ _ (h q hq o ho)
theorem Off.upd {id : Nat} {σ τ : Store} {o : Ob} (h : Off id σ τ) : Off id σ (Vc.upd τ id o) := fun q hq o' ho => by rw [upd_ne hq]; exact h q hq o' ho
theorem Off.new {id j : Nat} {σ τ : Store} {o : Ob} (h : Off id σ τ) (hj : σ j = none) : Off id σ (Vc.upd τ j o) := fun q hq o' ho => by
  rw [upd_ne (ne_new ho hj)]; exact h q hq o' ho
theorem Off.to {id : Nat} {σ τ : Store} {X : Ob} (h : Off id σ τ) (hx : τ id = some X) : SubStore (Vc.upd σ id X) τ := fun q o ho => by
  by_cases hq : q = id
  · subst hq; rw [upd_same] at ho; rw [hx]; exact ho
  · rw [upd_ne hq] at ho; exact h q hq o ho
theorem Off.none {id : Nat} {σ τ : Store} (h : Off id σ τ) {X : Ob} (hi : τ id = some X) {q : Nat} (hq : τ q = none) : σ q = none := by
  cases hs : σ q with
  | none => rfl
  | some o =>
    have : q ≠ id := fun e => by rw [e, hi] at hq; cases hq
    rw [h q this o hs] at hq; cases hq
theorem Off.retv {id : Nat} {σ τ : Store} {X : Ob} {v v' : V} (h : Off id σ τ) (hx : τ id = some X) (hv : v = v') : RetV v τ fun r σ' => r = v' ∧ σ' = Vc.upd σ id X :=
  ⟨_, _, h.to hx, Wk.refl (h.to hx) _, hv, rfl⟩
inductive Shp where
  | box (w h : Int)
  | block (s : List Int) (inner : List Shp)
  | text (ns : List Int)
  | float (w h side : Int)
mutual
def encS : Shp → V
  | .box w h => .iface 83 (.agg [vI w, vI h])
  | .block s inner => .iface 87 (.agg (s.map vI ++ [.sl 1 (encSs inner)]))
  | .text ns => .iface 112 (.agg [.sl 1 (ns.map vI)])
  | .float w h d => .iface 114 (.agg [vI w, vI h, vI d])
def encSs : List Shp → List V
  | [] => []
  | x :: l => encS x :: encSs l
end
theorem encSs_eq (l : List Shp) : encSs l = l.map encS := by
  induction l with
  | nil => rfl
  | cons x l ih => simp [encSs, ih]
abbrev RS := List Tk × Bool
def boxR (e : Int) (l : List Tk) (w : Bool) : Int × Int × RS :=
  let c1 := countR 1 MX l w
  let c2 := countR 1 MX c1.2.1 c1.2.2
  (c1.1, c2.1, takeR e c2.2.1 c2.2.2)
theorem box_c {σ : Store} {id : Nat} {l : List Tk} {w : Bool} (e : Int) (h : σ id = some (rdr l w)) : Contract Tryz.prog 32 [.ptr id 0 0, .int .i32 e] σ fun r σ' =>
    r = .agg [vI (boxR e l w).1, vI (boxR e l w).2.1] ∧ σ' = upd σ id (rdr (boxR e l w).2.2.1 (boxR e l w).2.2.2) := by
  refine Contract.of_runs Tryz.func32 e32 k32 (by simp [c32]) ?_
  refine Runs.mix 6 ?_
  unfold boxR
  simp only
  generalize hc1 : countR 1 MX l w = c1
  generalize hc2 : countR 1 MX c1.2.1 c1.2.2 = c2
  (refine Runs.of_step Orc.nothing 300 ?_; simp -implicitDefEqProofs only [BB,seval,← decide_not,okind,vpre,vpure,intBin,intPre,strBin,strPre,popTo,argSlots,fldV,fldAV,subCells,idxVV,idxAAV,idxSV,sliceV,sliceSV,boundV,szIs,storeOp,storeS,setRowV,eff,extV,buildV,splice,eqSV,fitsL,eqCells,eqCell,minmaxV,capV,binBV,nilCheckV,bytesV,V.cells,V.stays,Orc.nothing,c32])
  refine effR_new fun id4 σ4 s4 a4 f4 => ?_
  have h4 : σ4 id = some (rdr l w) := s4 _ _ h
  have n4 : id ≠ id4 := ne_new h f4
  have O4 : Off id σ σ4 := (Off.refl id σ).sub s4
  simp -implicitDefEqProofs only [BB,seval,← decide_not,okind,vpre,vpure,intBin,intPre,strBin,strPre,popTo,argSlots,fldV,fldAV,subCells,idxVV,idxAAV,idxSV,sliceV,sliceSV,boundV,szIs,storeOp,storeS,setRowV,eff,extV,buildV,splice,eqSV,fitsL,eqCells,eqCell,minmaxV,capV,binBV,nilCheckV,bytesV,V.cells,V.stays]
  refine Runs.call rfl rfl rfl (count_c 1 MX h4) ?_
  rintro r1 σ5 ⟨rfl, hσ5⟩
  rw [hc1] at hσ5 ⊢
  have O5 : Off id σ σ5 := by rw [hσ5]; exact O4.upd
  have h5 : σ5 id = some (rdr c1.2.1 c1.2.2) := by rw [hσ5]; exact upd_same
  have a5 : σ5 id4 = some ⟨83, 2, [.agg [vI 0, vI 0]]⟩ := by rw [hσ5, upd_ne n4.symm]; exact a4
  (refine Runs.of_step Orc.nothing 300 ?_; simp -implicitDefEqProofs only [BB,seval,effR_some,effD_some,← decide_not,okind,vpre,vpure,intBin,intPre,strBin,strPre,popTo,argSlots,fldV,fldAV,subCells,idxVV,idxAAV,idxSV,sliceV,sliceSV,boundV,szIs,storeOp,storeS,setRowV,eff,extV,buildV,splice,eqSV,fitsL,eqCells,eqCell,minmaxV,capV,binBV,nilCheckV,bytesV,V.cells,V.stays,Orc.nothing])
  refine Runs.call rfl rfl rfl (count_c 1 MX h5) ?_
  rintro r2 σ6 ⟨rfl, hσ6⟩
  rw [hc2] at hσ6 ⊢
  have O6 : Off id σ σ6 := by rw [hσ6]; exact O5.upd
  have h6 : σ6 id = some (rdr c2.2.1 c2.2.2) := by rw [hσ6]; exact upd_same
  have a6 : σ6 id4 = some ⟨83, 2, [.agg [vI 0, vI 0]]⟩ := by rw [hσ6, upd_ne n4.symm]; exact a5
  (refine Runs.of_step Orc.nothing 300 ?_; simp -implicitDefEqProofs only [BB,seval,← decide_not,okind,vpre,vpure,intBin,intPre,strBin,strPre,popTo,argSlots,fldV,fldAV,subCells,idxVV,idxAAV,idxSV,sliceV,sliceSV,boundV,szIs,storeOp,storeS,setRowV,eff,extV,buildV,splice,eqSV,fitsL,eqCells,eqCell,minmaxV,capV,binBV,nilCheckV,bytesV,V.cells,V.stays,Orc.nothing])
  refine effR_new fun id5 σ7 s7 a7 f7 => ?_
  have f7 : σ6 id5 = none := f7
  have n7 : id ≠ id5 := ne_new h6 f7
  have n47 : id4 ≠ id5 := ne_new a6 f7
  have z5 : σ id5 = none := O6.none h6 f7
  have h7 : upd σ7 id5 ⟨83, 2, [.agg [vI c1.1, vI c2.1]]⟩ id = some (rdr c2.2.1 c2.2.2) := by rw [upd_ne n7]; exact s7 _ _ h6
  have O7 : Off id σ (upd σ7 id5 ⟨83, 2, [.agg [vI c1.1, vI c2.1]]⟩) := (O6.sub s7).new z5
  have a8 : upd σ7 id5 ⟨83, 2, [.agg [vI c1.1, vI c2.1]]⟩ id4 = some ⟨83, 2, [.agg [vI 0, vI 0]]⟩ := by rw [upd_ne n47]; exact s7 _ _ a6
  simp -implicitDefEqProofs only [BB,seval,← decide_not,okind,vpre,vpure,intBin,intPre,strBin,strPre,popTo,argSlots,fldV,fldAV,subCells,idxVV,idxAAV,idxSV,sliceV,sliceSV,boundV,szIs,storeOp,storeS,setRowV,eff,extV,buildV,splice,eqSV,fitsL,eqCells,eqCell,minmaxV,capV,binBV,nilCheckV,bytesV,V.cells,V.stays,a7]
  refine Runs.call rfl rfl rfl (take_c e h7) ?_
  rintro r3 σ8 ⟨rfl, hσ8⟩
  have O8 : Off id σ σ8 := by rw [hσ8]; exact O7.upd
  have h8 : σ8 id = some (rdr (takeR e c2.2.1 c2.2.2).1 (takeR e c2.2.1 c2.2.2).2) := by rw [hσ8]; exact upd_same
  have b4 : σ8 id4 = some ⟨83, 2, [.agg [vI 0, vI 0]]⟩ := by rw [hσ8, upd_ne n4.symm]; exact a8
  have b5 : σ8 id5 = some ⟨83, 2, [.agg [vI c1.1, vI c2.1]]⟩ := by rw [hσ8, upd_ne n7.symm]; exact upd_same
  (refine Runs.of_step Orc.nothing 300 ?_; simp -implicitDefEqProofs only [BB,seval,effR_some,effD_some,← decide_not,okind,vpre,vpure,intBin,intPre,strBin,strPre,popTo,argSlots,fldV,fldAV,subCells,idxVV,idxAAV,idxSV,sliceV,sliceSV,boundV,szIs,storeOp,storeS,setRowV,eff,extV,buildV,splice,eqSV,fitsL,eqCells,eqCell,minmaxV,capV,binBV,nilCheckV,bytesV,V.cells,V.stays,Orc.nothing,b4,b5])
  exact (O8.new f4).retv (by rw [upd_ne n4]; exact h8) rfl
end Go.Vc
namespace Go.Vc
open Go.Proofs
def floatR (l : List Tk) (w : Bool) : Shp × RS :=
  let a := takeR 60 l w
  let b := takeR (if signB 82 a.1 then 82 else 76) a.1 a.2
  let c := boxR 62 b.1 b.2
  (.float c.1 c.2.1 (if signB 82 a.1 then 2 else 1), c.2.2)
theorem float_c {σ : Store} {id : Nat} {l : List Tk} {w : Bool} (h : σ id = some (rdr l w)) : Contract Tryz.prog 33 [.ptr id 0 0] σ fun r σ' =>
    r = encS (floatR l w).1 ∧ σ' = upd σ id (rdr (floatR l w).2.1 (floatR l w).2.2) := by
  refine Contract.of_runs Tryz.func33 e33 k33 (by simp [c33]) ?_
  refine Runs.mix 4 ?_
  unfold floatR
  simp only
  generalize ha : takeR 60 l w = a
  (refine Runs.of_step Orc.nothing 300 ?_; simp -implicitDefEqProofs only [BB,seval,effR_some,effD_some,← decide_not,okind,vpre,vpure,intBin,intPre,strBin,strPre,popTo,argSlots,fldV,fldAV,subCells,idxVV,idxAAV,idxSV,sliceV,sliceSV,boundV,szIs,storeOp,storeS,setRowV,eff,extV,buildV,splice,eqSV,fitsL,eqCells,eqCell,minmaxV,capV,binBV,nilCheckV,bytesV,V.cells,V.stays,Orc.nothing,c33])
  refine Runs.call rfl rfl rfl (take_c 60 h) ?_
  rintro r1 σ5 ⟨rfl, hσ5⟩
  rw [ha] at hσ5
  have O5 : Off id σ σ5 := by rw [hσ5]; exact (Off.refl id σ).upd
  have h5 : σ5 id = some (rdr a.1 a.2) := by rw [hσ5]; exact upd_same
  (refine Runs.of_step Orc.nothing 300 ?_; simp -implicitDefEqProofs only [BB,seval,effR_some,effD_some,← decide_not,okind,vpre,vpure,intBin,intPre,strBin,strPre,popTo,argSlots,fldV,fldAV,subCells,idxVV,idxAAV,idxSV,sliceV,sliceSV,boundV,szIs,storeOp,storeS,setRowV,eff,extV,buildV,splice,eqSV,fitsL,eqCells,eqCell,minmaxV,capV,binBV,nilCheckV,bytesV,V.cells,V.stays,Orc.nothing,h5])
  refine Runs.pcall rfl rfl rfl (rsign_c a.1 82 _) ?_
  cases hs : signB 82 a.1 with
  | true =>
    simp only [if_true]
    generalize hb : takeR 82 a.1 a.2 = b
    (refine Runs.of_step Orc.nothing 300 ?_; simp -implicitDefEqProofs only [BB,seval,effR_some,effD_some,← decide_not,okind,vpre,vpure,intBin,intPre,strBin,strPre,popTo,argSlots,fldV,fldAV,subCells,idxVV,idxAAV,idxSV,sliceV,sliceSV,boundV,szIs,storeOp,storeS,setRowV,eff,extV,buildV,splice,eqSV,fitsL,eqCells,eqCell,minmaxV,capV,binBV,nilCheckV,bytesV,V.cells,V.stays,Orc.nothing])
    refine Runs.call rfl rfl rfl (take_c 82 h5) ?_
    rintro r2 σ6 ⟨rfl, hσ6⟩
    rw [hb] at hσ6
    have O6 : Off id σ σ6 := by rw [hσ6]; exact O5.upd
    have h6 : σ6 id = some (rdr b.1 b.2) := by rw [hσ6]; exact upd_same
    (refine Runs.of_step Orc.nothing 300 ?_; simp -implicitDefEqProofs only [BB,seval,effR_some,effD_some,← decide_not,okind,vpre,vpure,intBin,intPre,strBin,strPre,popTo,argSlots,fldV,fldAV,subCells,idxVV,idxAAV,idxSV,sliceV,sliceSV,boundV,szIs,storeOp,storeS,setRowV,eff,extV,buildV,splice,eqSV,fitsL,eqCells,eqCell,minmaxV,capV,binBV,nilCheckV,bytesV,V.cells,V.stays,Orc.nothing])
    refine Runs.call rfl rfl rfl (box_c 62 h6) ?_
    rintro r3 σ7 ⟨rfl, hσ7⟩
    (refine Runs.of_step Orc.nothing 300 ?_; simp -implicitDefEqProofs only [BB,seval,effR_some,effD_some,← decide_not,okind,vpre,vpure,intBin,intPre,strBin,strPre,popTo,argSlots,fldV,fldAV,subCells,idxVV,idxAAV,idxSV,sliceV,sliceSV,boundV,szIs,storeOp,storeS,setRowV,eff,extV,buildV,splice,eqSV,fitsL,eqCells,eqCell,minmaxV,capV,binBV,nilCheckV,bytesV,V.cells,V.stays,Orc.nothing])
    exact (show Off id σ σ7 by rw [hσ7]; exact O6.upd).retv (by rw [hσ7]; exact upd_same) rfl
  | false =>
    simp only [Bool.false_eq_true,if_false]
    generalize hb : takeR 76 a.1 a.2 = b
    (refine Runs.of_step Orc.nothing 300 ?_; simp -implicitDefEqProofs only [BB,seval,effR_some,effD_some,← decide_not,okind,vpre,vpure,intBin,intPre,strBin,strPre,popTo,argSlots,fldV,fldAV,subCells,idxVV,idxAAV,idxSV,sliceV,sliceSV,boundV,szIs,storeOp,storeS,setRowV,eff,extV,buildV,splice,eqSV,fitsL,eqCells,eqCell,minmaxV,capV,binBV,nilCheckV,bytesV,V.cells,V.stays,Orc.nothing])
    refine Runs.call rfl rfl rfl (take_c 76 h5) ?_
    rintro r2 σ6 ⟨rfl, hσ6⟩
    rw [hb] at hσ6
    have O6 : Off id σ σ6 := by rw [hσ6]; exact O5.upd
    have h6 : σ6 id = some (rdr b.1 b.2) := by rw [hσ6]; exact upd_same
    (refine Runs.of_step Orc.nothing 300 ?_; simp -implicitDefEqProofs only [BB,seval,effR_some,effD_some,← decide_not,okind,vpre,vpure,intBin,intPre,strBin,strPre,popTo,argSlots,fldV,fldAV,subCells,idxVV,idxAAV,idxSV,sliceV,sliceSV,boundV,szIs,storeOp,storeS,setRowV,eff,extV,buildV,splice,eqSV,fitsL,eqCells,eqCell,minmaxV,capV,binBV,nilCheckV,bytesV,V.cells,V.stays,Orc.nothing])
    refine Runs.call rfl rfl rfl (box_c 62 h6) ?_
    rintro r3 σ7 ⟨rfl, hσ7⟩
    (refine Runs.of_step Orc.nothing 300 ?_; simp -implicitDefEqProofs only [BB,seval,effR_some,effD_some,← decide_not,okind,vpre,vpure,intBin,intPre,strBin,strPre,popTo,argSlots,fldV,fldAV,subCells,idxVV,idxAAV,idxSV,sliceV,sliceSV,boundV,szIs,storeOp,storeS,setRowV,eff,extV,buildV,splice,eqSV,fitsL,eqCells,eqCell,minmaxV,capV,binBV,nilCheckV,bytesV,V.cells,V.stays,Orc.nothing])
    exact (show Off id σ σ7 by rw [hσ7]; exact O6.upd).retv (by rw [hσ7]; exact upd_same) rfl
def numsR : List Tk → List Int × List Tk
  | [] => ([], [])
  | t :: r => if numB 1 MX (t :: r) then (t.n :: (numsR r).1, (numsR r).2) else ([], t :: r)
theorem numsR_no {l : List Tk} (h : numB 1 MX l = false) : numsR l = ([], l) := by
  cases l with
  | nil => rfl
  | cons t r => simp [numsR, h]
def textR (l : List Tk) : List Int × RS :=
  let a := takeR 40 l false
  let c1 := countR 1 MX a.1 a.2
  let c2 := countR 0 MX c1.2.1 c1.2.2
  let c3 := countR 1 MX c2.2.1 c2.2.2
  let ws := numsR c3.2.1
  ([c1.1, c2.1, c3.1] ++ ws.1, takeR 41 ws.2 c3.2.2)
theorem numB_weak {l : List Tk} (h : numB 0 MX l = false) : numB 1 MX l = false := by
  cases l with
  | nil => rfl
  | cons t r =>
    simp only [numB,Bool.and_eq_false_iff,decide_eq_false_iff_not] at h ⊢
    rcases h with h | h | h
    · exact .inl h
    · exact .inr (.inl (by omega))
    · exact .inr (.inr h)
theorem count_wrong {a b : Int} {l : List Tk} {w : Bool} (hw : w = true → numB 1 MX l = false) (hb : b = MX) (ha : a = 0 ∨ a = 1) : (countR a b l w).2.2 = true → numB 1 MX (countR a b l w).2.1 = false := by
  subst hb
  cases l with
  | nil => intro _; rfl
  | cons t r =>
    unfold countR
    simp only
    split
    · rename_i h
      intro _
      cases w with
      | true => exact hw rfl
      | false =>
        simp only [Bool.false_or,Bool.not_eq_true'] at h
        rcases ha with rfl | rfl
        · exact numB_weak h
        · exact h
    · intro h; cases h
theorem count_len (a b : Int) (l : List Tk) (w : Bool) : (countR a b l w).2.1.length ≤ l.length := by
  cases l with
  | nil => simp [countR]
  | cons t r => simp only [countR]; split <;> simp
structure TInv (σ0 σ : Store) (id : Nat) (v : V) (ns : List Int) (l : List Tk) (w : Bool) : Prop where
  off : Off id σ0 σ
  rd : σ id = some (rdr l w)
  out : OutV σ0 σ 3 1 v (ns.map vI)
  wr : w = true → numB 1 MX l = false
  len : ns.length + l.length ≤ 1000003
theorem rtxt_c {σ : Store} {id : Nat} {l : List Tk} (h : σ id = some (rdr l false)) (hl : l.length ≤ 1000000) (hsg : signB 40 l = true) : Contract Tryz.prog 30 [.ptr id 0 0] σ fun r σ' =>
    r = encS (.text (textR l).1) ∧ σ' = upd σ id (rdr (textR l).2.1 (textR l).2.2) := by
  refine Contract.of_runs Tryz.func30 e30 k30 (by simp [c30]) ?_
  refine Runs.mix 4 ?_
  unfold textR
  simp only
  generalize ha : takeR 40 l false = a
  have hal : a.1.length ≤ 1000000 ∧ (a.2 = true → numB 1 MX a.1 = false) := by
    cases l with
    | nil => cases hsg
    | cons t r =>
      have : takeR 40 (t :: r) false = (r, false) := by simp [takeR, hsg]
      rw [← ha, this]
      simp only [List.length_cons] at hl
      exact ⟨by simp only; omega, fun h => by cases h⟩
  generalize hc1 : countR 1 MX a.1 a.2 = c1
  generalize hc2 : countR 0 MX c1.2.1 c1.2.2 = c2
  generalize hc3 : countR 1 MX c2.2.1 c2.2.2 = c3
  have w1 := count_wrong (a := 1) (b := MX) hal.2 rfl (.inr rfl)
  rw [hc1] at w1
  have w2 := count_wrong (a := 0) (b := MX) w1 rfl (.inl rfl)
  rw [hc2] at w2
  have w3 := count_wrong (a := 1) (b := MX) w2 rfl (.inr rfl)
  rw [hc3] at w3
  have l1 := count_len 1 MX a.1 a.2
  have l2 := count_len 0 MX c1.2.1 c1.2.2
  have l3 := count_len 1 MX c2.2.1 c2.2.2
  rw [hc1] at l1
  rw [hc2] at l2
  rw [hc3] at l3
  (refine Runs.of_step Orc.nothing 300 ?_; simp -implicitDefEqProofs only [BB,seval,effR_some,effD_some,← decide_not,okind,vpre,vpure,intBin,intPre,strBin,strPre,popTo,argSlots,fldV,fldAV,subCells,idxVV,idxAAV,idxSV,sliceV,sliceSV,boundV,szIs,storeOp,storeS,setRowV,eff,extV,buildV,splice,eqSV,fitsL,eqCells,eqCell,minmaxV,capV,binBV,nilCheckV,bytesV,V.cells,V.stays,Orc.nothing,c30])
  refine Runs.call rfl rfl rfl (take_c 40 h) ?_
  rintro r1 σ5 ⟨rfl, hσ5⟩
  rw [ha] at hσ5
  have O5 : Off id σ σ5 := by rw [hσ5]; exact (Off.refl id σ).upd
  have h5 : σ5 id = some (rdr a.1 a.2) := by rw [hσ5]; exact upd_same
  (refine Runs.of_step Orc.nothing 300 ?_; simp -implicitDefEqProofs only [BB,seval,effR_some,effD_some,← decide_not,okind,vpre,vpure,intBin,intPre,strBin,strPre,popTo,argSlots,fldV,fldAV,subCells,idxVV,idxAAV,idxSV,sliceV,sliceSV,boundV,szIs,storeOp,storeS,setRowV,eff,extV,buildV,splice,eqSV,fitsL,eqCells,eqCell,minmaxV,capV,binBV,nilCheckV,bytesV,V.cells,V.stays,Orc.nothing])
  refine Runs.call rfl rfl rfl (count_c 1 MX h5) ?_
  rintro r2 σ6 ⟨rfl, hσ6⟩
  rw [hc1] at hσ6 ⊢
  have O6 : Off id σ σ6 := by rw [hσ6]; exact O5.upd
  have h6 : σ6 id = some (rdr c1.2.1 c1.2.2) := by rw [hσ6]; exact upd_same
  (refine Runs.of_step Orc.nothing 300 ?_; simp -implicitDefEqProofs only [BB,seval,effR_some,effD_some,← decide_not,okind,vpre,vpure,intBin,intPre,strBin,strPre,popTo,argSlots,fldV,fldAV,subCells,idxVV,idxAAV,idxSV,sliceV,sliceSV,boundV,szIs,storeOp,storeS,setRowV,eff,extV,buildV,splice,eqSV,fitsL,eqCells,eqCell,minmaxV,capV,binBV,nilCheckV,bytesV,V.cells,V.stays,Orc.nothing])
  refine Runs.call rfl rfl rfl (count_c 0 MX h6) ?_
  rintro r3 σ7 ⟨rfl, hσ7⟩
  rw [hc2] at hσ7 ⊢
  have O7 : Off id σ σ7 := by rw [hσ7]; exact O6.upd
  have h7 : σ7 id = some (rdr c2.2.1 c2.2.2) := by rw [hσ7]; exact upd_same
  (refine Runs.of_step Orc.nothing 300 ?_; simp -implicitDefEqProofs only [BB,seval,effR_some,effD_some,← decide_not,okind,vpre,vpure,intBin,intPre,strBin,strPre,popTo,argSlots,fldV,fldAV,subCells,idxVV,idxAAV,idxSV,sliceV,sliceSV,boundV,szIs,storeOp,storeS,setRowV,eff,extV,buildV,splice,eqSV,fitsL,eqCells,eqCell,minmaxV,capV,binBV,nilCheckV,bytesV,V.cells,V.stays,Orc.nothing])
  refine Runs.call rfl rfl rfl (count_c 1 MX h7) ?_
  rintro r4 σ8 ⟨rfl, hσ8⟩
  rw [hc3] at hσ8 ⊢
  have O8 : Off id σ σ8 := by rw [hσ8]; exact O7.upd
  have h8 : σ8 id = some (rdr c3.2.1 c3.2.2) := by rw [hσ8]; exact upd_same
  (refine Runs.of_step Orc.nothing 300 ?_; simp -implicitDefEqProofs only [BB,seval,← decide_not,okind,vpre,vpure,intBin,intPre,strBin,strPre,popTo,argSlots,fldV,fldAV,subCells,idxVV,idxAAV,idxSV,sliceV,sliceSV,boundV,szIs,storeOp,storeS,setRowV,eff,extV,buildV,splice,eqSV,fitsL,eqCells,eqCell,minmaxV,capV,binBV,nilCheckV,bytesV,V.cells,V.stays,Orc.nothing])
  refine effR_new fun id9 σ9 s9 a9 f9 => ?_
  have f9 : σ8 id9 = none := f9
  have inv0 : TInv σ σ9 id (.own id9 0 3) [c1.1, c2.1, c3.1] c3.2.1 c3.2.2 :=
    { off := O8.sub s9, rd := s9 _ _ h8, out := OutV.new rfl a9 (O8.none h8 f9), wr := w3, len := by simp only [List.length_cons,List.length_nil]; omega }
  simp -implicitDefEqProofs only [BB,seval,← decide_not,okind,vpre,vpure,intBin,intPre,strBin,strPre,popTo,argSlots,fldV,fldAV,subCells,idxVV,idxAAV,idxSV,sliceV,sliceSV,boundV,szIs,storeOp,storeS,setRowV,eff,extV,buildV,splice,eqSV,fitsL,eqCells,eqCell,minmaxV,capV,binBV,nilCheckV,bytesV,V.cells,V.stays]
  refine Runs.loop (fun m st => ∃ ns l', m = l'.length ∧ ([c1.1, c2.1, c3.1] ++ (numsR c3.2.1).1, (numsR c3.2.1).2) = (ns ++ (numsR l').1, (numsR l').2) ∧ TInv σ st.σ id (st.s 3) ns l' c3.2.2 ∧ st.s 0 = .ptr id 0 0) c3.2.1.length ⟨_, _, rfl, rfl, inv0, rfl⟩ ?_
  rintro m ⟨S, σc⟩ ⟨ns, l', rfl, hns, inv, p0⟩
  simp only at inv p0
  refine Runs.mix 4 ?_
  have rd := inv.rd
  (refine Runs.of_step Orc.nothing 300 ?_; simp -implicitDefEqProofs only [BB,seval,effR_some,effD_some,← decide_not,okind,vpre,vpure,intBin,intPre,strBin,strPre,popTo,argSlots,fldV,fldAV,subCells,idxVV,idxAAV,idxSV,sliceV,sliceSV,boundV,szIs,storeOp,storeS,setRowV,eff,extV,buildV,splice,eqSV,fitsL,eqCells,eqCell,minmaxV,capV,binBV,nilCheckV,bytesV,V.cells,V.stays,Orc.nothing,p0,rd])
  refine Runs.pcall rfl rfl rfl (rnum_c l' 1 MX _) ?_
  cases hn : numB 1 MX l' with
  | false =>
    rw [numsR_no hn, List.append_nil] at hns
    have e1 : c1.1 :: c2.1 :: c3.1 :: (numsR c3.2.1).1 = ns := (Prod.mk.injEq _ _ _ _ ▸ hns).1
    have e2 : (numsR c3.2.1).2 = l' := (Prod.mk.injEq _ _ _ _ ▸ hns).2
    (refine Runs.of_step Orc.nothing 300 ?_; simp -implicitDefEqProofs only [BB,seval,effR_some,effD_some,← decide_not,okind,vpre,vpure,intBin,intPre,strBin,strPre,popTo,argSlots,fldV,fldAV,subCells,idxVV,idxAAV,idxSV,sliceV,sliceSV,boundV,szIs,storeOp,storeS,setRowV,eff,extV,buildV,splice,eqSV,fitsL,eqCells,eqCell,minmaxV,capV,binBV,nilCheckV,bytesV,V.cells,V.stays,Orc.nothing,p0])
    rw [e1, e2]
    refine Runs.call rfl rfl rfl (take_c 41 rd) ?_
    rintro r5 σd ⟨rfl, hσd⟩
    have hσd : σd = upd σc id _ := hσd
    have Od : Off id σ σd := by rw [hσd]; exact inv.off.upd
    have hd : σd id = some (rdr (takeR 41 l' c3.2.2).1 (takeR 41 l' c3.2.2).2) := by rw [hσd]; exact upd_same
    have hout : OutV (upd σ id (rdr (takeR 41 l' c3.2.2).1 (takeR 41 l' c3.2.2).2)) σd 3 1 (S 3) (ns.map vI) := by
      rcases inv.out with h1 | ⟨q, g1, g2, g3⟩
      · exact .inl h1
      · have hq : q ≠ id := fun e => by rw [e, h] at g3; cases g3
        exact .inr ⟨q, g1, by rw [hσd, upd_ne hq]; exact g2, by rw [upd_ne hq]; exact g3⟩
    refine Runs.weaken (st' := ⟨fun q => if q = 3 then .sl 1 (ns.map vI) else .undef, upd σ id (rdr (takeR 41 l' c3.2.2).1 (takeR 41 l' c3.2.2).2)⟩) ⟨Od.to hd, fun q => ?_⟩ ?_
    · show Wk σd _ _ (if q = 3 then V.sl 1 (ns.map vI) else .undef)
      by_cases hq : q = 3
      · subst hq
        rw [if_pos rfl]
        exact hout.wk (SubStore.refl _) (Od.to hd)
      · rw [if_neg hq]
        exact Wk.undef _
    (refine Runs.of_step Orc.nothing 300 ?_; simp -implicitDefEqProofs only [BB,seval,effR_some,effD_some,← decide_not,okind,vpre,vpure,intBin,intPre,strBin,strPre,popTo,argSlots,fldV,fldAV,subCells,idxVV,idxAAV,idxSV,sliceV,sliceSV,boundV,szIs,storeOp,storeS,setRowV,eff,extV,buildV,splice,eqSV,fitsL,eqCells,eqCell,minmaxV,capV,binBV,nilCheckV,bytesV,V.cells,V.stays,Orc.nothing])
    exact RetV.same (by simp [encS])
  | true =>
    cases l' with
    | nil => cases hn
    | cons t r =>
      have hw : c3.2.2 = false := by
        cases hcw : c3.2.2 with
        | false => rfl
        | true => rw [inv.wr hcw] at hn; cases hn
      have hnr : numsR (t :: r) = (t.n :: (numsR r).1, (numsR r).2) := by simp [numsR, hn]
      have hcr : countR 1 MX (t :: r) false = (t.n, r, false) := by simp [countR, hn]
      rw [hnr] at hns
      have hil := inv.len
      simp only [List.length_cons] at hil
      rw [hw] at inv rd
      (refine Runs.of_step Orc.nothing 300 ?_; simp -implicitDefEqProofs only [BB,seval,effR_some,effD_some,← decide_not,okind,vpre,vpure,intBin,intPre,strBin,strPre,popTo,argSlots,fldV,fldAV,subCells,idxVV,idxAAV,idxSV,sliceV,sliceSV,boundV,szIs,storeOp,storeS,setRowV,eff,extV,buildV,splice,eqSV,fitsL,eqCells,eqCell,minmaxV,capV,binBV,nilCheckV,bytesV,V.cells,V.stays,Orc.nothing,p0])
      refine Runs.call rfl rfl rfl (count_c 1 MX rd) ?_
      rw [hcr]
      rintro r5 σd ⟨rfl, hσd⟩
      have hσd : σd = upd σc id (rdr r false) := hσd
      have Od : Off id σ σd := by rw [hσd]; exact inv.off.upd
      have hd : σd id = some (rdr r false) := by rw [hσd]; exact upd_same
      have hout : OutV σ σd 3 1 (S 3) (ns.map vI) := by
        rcases inv.out with h1 | ⟨q, g1, g2, g3⟩
        · exact .inl h1
        · have hq : q ≠ id := fun e => by rw [e, h] at g3; cases g3
          exact .inr ⟨q, g1, by rw [hσd, upd_ne hq]; exact g2, g3⟩
      (refine Runs.of_step Orc.nothing 300 ?_; simp -implicitDefEqProofs only [BB,seval,← decide_not,okind,vpre,vpure,intBin,intPre,strBin,strPre,popTo,argSlots,fldV,fldAV,subCells,idxVV,idxAAV,idxSV,sliceV,sliceSV,boundV,szIs,storeOp,storeS,setRowV,eff,extV,buildV,splice,eqSV,fitsL,eqCells,eqCell,minmaxV,capV,binBV,nilCheckV,bytesV,V.cells,V.stays,Orc.nothing])
      refine effR_new fun id21 σ21 s21 a21 f21 => ?_
      obtain ⟨idA, hda, hdA⟩ := hout.dst' s21
      have hb : (ns.length + 1) * 9 ≤ 140737488355328 := by omega
      simp -implicitDefEqProofs only [BB,seval,← decide_not,okind,vpre,vpure,intBin,intPre,strBin,strPre,popTo,argSlots,fldV,fldAV,subCells,idxVV,idxAAV,idxSV,sliceV,sliceSV,boundV,szIs,storeOp,storeS,setRowV,eff,extV,buildV,splice,eqSV,fitsL,eqCells,eqCell,minmaxV,capV,binBV,nilCheckV,bytesV,V.cells_agg,V.cells_int,V.cells_nils,V.cells_own,V.cells_sl,V.cells_str,V.cells_bool,V.cells_fn,V.cells_ptr,V.cells_rp,V.stays_agg,V.stays_int,V.stays_nils,V.stays_own,V.stays_sl,V.stays_str,V.stays_bool,V.stays_fn,V.stays_ptr,V.stays_rp,hda,srcOne a21,List.length_map,hb]
      refine effR_put fun id22 σ22 s22 a22 f22 => ?_
      simp -implicitDefEqProofs only [BB,seval,← decide_not,okind,vpre,vpure,intBin,intPre,strBin,strPre,popTo,argSlots,fldV,fldAV,subCells,idxVV,idxAAV,idxSV,sliceV,sliceSV,boundV,szIs,storeOp,storeS,setRowV,eff,extV,buildV,splice,eqSV,fitsL,eqCells,eqCell,minmaxV,capV,binBV,nilCheckV,bytesV,V.cells,V.stays,p0]
      have keep : ∀ q o, σ q ≠ none → σ21 q = some o → σ22 q = some o := by
        intro q o hq ho
        refine s22 _ _ ?_
        cases hA : idA with
        | none => exact ho
        | some j =>
          have hj := (hdA j hA).1
          have : q ≠ j := fun e => hq (by rw [e]; exact hj)
          show del σ21 j q = some o
          rw [del_ne this]
          exact ho
      have f22' : σ id22 = none := Od.none hd (s21.none f22)
      rw [hw]
      refine ⟨r.length, by omega, ns ++ [t.n], r, rfl, by simpa using hns, ?_⟩
      exact {
        off := fun q hq o ho => keep q o (by rw [ho]; simp) (s21 _ _ (Od q hq o ho))
        rd := keep id _ (by rw [h]; simp) (s21 _ _ hd)
        out := by
          rw [List.map_append]
          exact OutV.new (by simp) a22 f22'
        wr := fun e => by cases e
        len := by simp only [List.length_append,List.length_cons,List.length_nil]; omega }
end Go.Vc
namespace Go.Vc
open Go.Proofs
theorem attrsR_len : ∀ (m : Nat) (av : Int → Bool) (s : List Int) (l : List Tk), l.length ≤ m → (attrsR av s l).1.length = s.length ∧ (attrsR av s l).2.1.length ≤ l.length
  | m, av, s, [], _ => ⟨rfl, by simp [attrsR]⟩
  | 0, av, s, t :: r, h => by simp at h
  | m + 1, av, s, t :: r, h => by
    unfold attrsR
    split
    · split
      · exact ⟨rfl, Nat.le_refl _⟩
      · rename_i k a b hq
        cases r with
        | nil => exact ⟨by simp, by simp⟩
        | cons u r =>
          simp only
          split
          · simp only [List.length_cons] at h ⊢
            have := attrsR_len m (fun c => if c = t.sign then false else av c) (s.set k u.n) r (by omega)
            exact ⟨by rw [this.1]; simp, by omega⟩
          · exact ⟨by simp, by simp⟩
    · exact ⟨rfl, Nat.le_refl _⟩
theorem attrsT_len (av : Int → Bool) (s : List Int) (l : List Tk) (w : Bool) : (attrsT av s l w).1.length = s.length ∧ (attrsT av s l w).2.1.length ≤ l.length := by
  unfold attrsT
  split
  · exact ⟨rfl, Nat.le_refl _⟩
  · exact attrsR_len _ av s l (Nat.le_refl _)
theorem takeR_len (c : Int) (l : List Tk) (w : Bool) : (takeR c l w).1.length ≤ l.length := by
  unfold takeR; split <;> simp
theorem takeR_yes {c : Int} {l : List Tk} (h : signB c l = true) : takeR c l false = (l.tail, false) ∧ l.tail.length + 1 = l.length := by
  cases l with
  | nil => cases h
  | cons t r => simp [takeR, h]
theorem boxR_len (e : Int) (l : List Tk) (w : Bool) : (boxR e l w).2.2.1.length ≤ l.length := by
  unfold boxR
  simp only
  have h1 := count_len 1 MX l w
  have h2 := count_len 1 MX (countR 1 MX l w).2.1 (countR 1 MX l w).2.2
  exact Nat.le_trans (takeR_len _ _ _) (Nat.le_trans h2 h1)
theorem numsR_len : ∀ (l : List Tk), (numsR l).2.length ≤ l.length
  | [] => Nat.le_refl _
  | t :: r => by
    unfold numsR
    split
    · have := numsR_len r
      simp only [List.length_cons]; omega
    · exact Nat.le_refl _
theorem textR_len {l : List Tk} (h : signB 40 l = true) : (textR l).2.1.length + 1 ≤ l.length := by
  unfold textR
  simp only
  obtain ⟨e, hl⟩ := takeR_yes h
  rw [e]
  have h1 := count_len 1 MX l.tail false
  have h2 := count_len 0 MX (countR 1 MX l.tail false).2.1 (countR 1 MX l.tail false).2.2
  have h3 := count_len 1 MX (countR 0 MX (countR 1 MX l.tail false).2.1 (countR 1 MX l.tail false).2.2).2.1 (countR 0 MX (countR 1 MX l.tail false).2.1 (countR 1 MX l.tail false).2.2).2.2
  generalize countR 1 MX (countR 0 MX (countR 1 MX l.tail false).2.1 (countR 1 MX l.tail false).2.2).2.1 (countR 0 MX (countR 1 MX l.tail false).2.1 (countR 1 MX l.tail false).2.2).2.2 = c3 at *
  have h4 := numsR_len c3.2.1
  have h5 := takeR_len 41 (numsR c3.2.1).2 c3.2.2
  omega
theorem floatR_len {l : List Tk} (h : signB 60 l = true) : (floatR l false).2.1.length + 1 ≤ l.length := by
  unfold floatR
  simp only
  obtain ⟨e, hl⟩ := takeR_yes h
  rw [e]
  simp only
  have h1 := takeR_len (if signB 82 l.tail then 82 else 76) l.tail false
  have h2 := boxR_len 62 (takeR (if signB 82 l.tail then 82 else 76) l.tail false).1 (takeR (if signB 82 l.tail then 82 else 76) l.tail false).2
  omega
def nodesR : Nat → List Tk → List Shp × RS
  | 0, l => ([], l, false)
  | f + 1, l =>
    if signB 91 l then
      let s := attrsT (fun _ => true) plainS l.tail false
      let n := if s.2.2 then ([], s.2.1, true) else nodesR f s.2.1
      let c := takeR 93 n.2.1 n.2.2
      let o := if c.2 then ([], c.1, true) else nodesR f c.1
      (.block s.1 n.1 :: o.1, o.2)
    else if signB 40 l then
      let x := textR l
      let o := if x.2.2 then ([], x.2.1, true) else nodesR f x.2.1
      (.text x.1 :: o.1, o.2)
    else if signB 123 l then
      let b := boxR 125 l.tail false
      let o := if b.2.2.2 then ([], b.2.2.1, true) else nodesR f b.2.2.1
      (.box b.1 b.2.1 :: o.1, o.2)
    else if signB 60 l then
      let x := floatR l false
      let o := if x.2.2 then ([], x.2.1, true) else nodesR f x.2.1
      (x.1 :: o.1, o.2)
    else ([], l, false)
def nodesT (f : Nat) (l : List Tk) (w : Bool) : List Shp × RS := if w then ([], l, true) else nodesR f l
def NodesC (f : Nat) : Prop := ∀ (σ : Store) (id : Nat) (l : List Tk) (w : Bool), l.length ≤ f → l.length ≤ 1000000 → σ id = some (rdr l w) → Contract Tryz.prog 13 [.ptr id 0 0] σ fun r σ' =>
    r = .sl 1 ((nodesT f l w).1.map encS) ∧ σ' = upd σ id (rdr (nodesT f l w).2.1 (nodesT f l w).2.2)
theorem build_block {s : List Int} (hs : s.length = 12) (zs : List V) (hz : zs.length = 12) : buildV (zs ++ [V.nils]) [(0, 12, V.agg (s.map vI))] = some (s.map vI ++ [.nils]) := by
  simp [buildV, splice, V.cells, V.stays, hs, hz]
theorem set_block {s : List Int} (hs : s.length = 12) (x : V) (hx : x.cells.length = 1) (hst : x.stays = true) : setRowV (.agg (s.map vI ++ [.nils])) 12 1 x = some (.agg (s.map vI ++ x.cells)) := by
  unfold setRowV
  rw [if_pos ⟨hx, hst⟩, if_neg (by simp), if_pos (by simp [V.cells, hs])]
  simp [V.cells, hs]
theorem block_c {f : Nat} (ih : NodesC f) {σ : Store} {id : Nat} {l : List Tk} (h : σ id = some (rdr l false)) (hf : l.length ≤ f + 1) (hl : l.length ≤ 1000000) (hsg : signB 91 l = true) :
    Contract Tryz.prog 29 [.ptr id 0 0] σ fun r σ' =>
      r = encS (.block (attrsT (fun _ => true) plainS l.tail false).1 (nodesT f (attrsT (fun _ => true) plainS l.tail false).2.1 (attrsT (fun _ => true) plainS l.tail false).2.2).1) ∧
      σ' = upd σ id (rdr (takeR 93 (nodesT f (attrsT (fun _ => true) plainS l.tail false).2.1 (attrsT (fun _ => true) plainS l.tail false).2.2).2.1 (nodesT f (attrsT (fun _ => true) plainS l.tail false).2.1 (attrsT (fun _ => true) plainS l.tail false).2.2).2.2).1
        (takeR 93 (nodesT f (attrsT (fun _ => true) plainS l.tail false).2.1 (attrsT (fun _ => true) plainS l.tail false).2.2).2.1 (nodesT f (attrsT (fun _ => true) plainS l.tail false).2.1 (attrsT (fun _ => true) plainS l.tail false).2.2).2.2).2) := by
  refine Contract.of_runs Tryz.func29 e29 k29 (by simp [c29]) ?_
  refine Runs.mix 4 ?_
  obtain ⟨ht, htl⟩ := takeR_yes hsg
  have hal := attrsT_len (fun _ => true) plainS l.tail false
  generalize ha : attrsT (fun _ => true) plainS l.tail false = a at *
  generalize hn : nodesT f a.2.1 a.2.2 = nn at *
  generalize htk : takeR 93 nn.2.1 nn.2.2 = c at *
  have hsl : a.1.length = 12 := hal.1
  (refine Runs.of_step Orc.nothing 300 ?_; simp -implicitDefEqProofs only [BB,seval,effR_some,effD_some,← decide_not,okind,vpre,vpure,intBin,intPre,strBin,strPre,popTo,argSlots,fldV,fldAV,subCells,idxVV,idxAAV,idxSV,sliceV,sliceSV,boundV,szIs,storeOp,storeS,setRowV,eff,extV,buildV,splice,eqSV,fitsL,eqCells,eqCell,minmaxV,capV,binBV,nilCheckV,bytesV,V.cells,V.stays,Orc.nothing,c29])
  refine Runs.call rfl rfl rfl (take_c 91 h) ?_
  rintro r1 σ5 ⟨rfl, hσ5⟩
  rw [ht] at hσ5
  have O5 : Off id σ σ5 := by rw [hσ5]; exact (Off.refl id σ).upd
  have h5 : σ5 id = some (rdr l.tail false) := by rw [hσ5]; exact upd_same
  (refine Runs.of_step Orc.nothing 300 ?_; simp -implicitDefEqProofs only [BB,seval,effR_some,effD_some,← decide_not,okind,vpre,vpure,intBin,intPre,strBin,strPre,popTo,argSlots,fldV,fldAV,subCells,idxVV,idxAAV,idxSV,sliceV,sliceSV,boundV,szIs,storeOp,storeS,setRowV,eff,extV,buildV,splice,eqSV,fitsL,eqCells,eqCell,minmaxV,capV,binBV,nilCheckV,bytesV,V.cells,V.stays,Orc.nothing])
  refine Runs.call rfl rfl rfl (attrs_c h5) ?_
  rw [ha]
  rintro r2 σ6 ⟨rfl, hσ6⟩
  have O6 : Off id σ σ6 := by rw [hσ6]; exact O5.upd
  have h6 : σ6 id = some (rdr a.2.1 a.2.2) := by rw [hσ6]; exact upd_same
  have hbb := build_block hsl [.int .i64 0, .int .i64 0, .int .i64 0, .int .i64 0, .int .i64 0, .int .i64 0, .int .i64 0, .int .i64 0, .int .i64 0, .int .i64 0, .int .i64 0, .int .i64 0] rfl
  simp only [List.cons_append,List.nil_append] at hbb
  have hc13 : (V.agg (a.1.map vI ++ [.nils])).cells.length = 13 := by simp [V.cells, hsl]
  have hst13 : (V.agg (a.1.map vI ++ [.nils])).stays = true := rfl
  have hs0 : ∀ z : List V, z.length = 13 → setRowV (.agg z) 0 13 (.agg (a.1.map vI ++ [.nils])) = some (.agg (a.1.map vI ++ [.nils])) := fun z hz => by
    unfold setRowV
    rw [if_pos ⟨hc13, hst13⟩, if_pos ⟨rfl, hz⟩]
  have hs00 := hs0 [.int .i64 0, .int .i64 0, .int .i64 0, .int .i64 0, .int .i64 0, .int .i64 0, .int .i64 0, .int .i64 0, .int .i64 0, .int .i64 0, .int .i64 0, .int .i64 0, .nils] rfl
  (refine Runs.of_step Orc.nothing 300 ?_; simp -implicitDefEqProofs only [BB,seval,← decide_not,okind,vpre,vpure,intBin,intPre,strBin,strPre,popTo,argSlots,fldV,fldAV,subCells,idxVV,idxAAV,idxSV,sliceV,sliceSV,boundV,szIs,storeOp,storeS,setRowV,eff,extV,splice,eqSV,fitsL,eqCells,eqCell,minmaxV,capV,binBV,nilCheckV,bytesV,V.cells,V.stays,Orc.nothing,hbb])
  refine effR_new fun id9 σ9 s9 a9 f9 => ?_
  have f9 : σ6 id9 = none := f9
  have n9 : id ≠ id9 := ne_new h6 f9
  have z9 : σ id9 = none := O6.none h6 f9
  simp -implicitDefEqProofs only [BB,seval,← decide_not,okind,vpre,vpure,intBin,intPre,strBin,strPre,popTo,argSlots,fldV,fldAV,subCells,idxVV,idxAAV,idxSV,sliceV,sliceSV,boundV,szIs,storeOp,storeS,eff,extV,buildV,splice,eqSV,fitsL,eqCells,eqCell,minmaxV,capV,binBV,nilCheckV,bytesV,V.cells,V.stays,a9,hs00]
  have h9 : upd σ9 id9 ⟨87, 13, [.agg (a.1.map vI ++ [.nils])]⟩ id = some (rdr a.2.1 a.2.2) := by rw [upd_ne n9]; exact s9 _ _ h6
  have O9 : Off id σ (upd σ9 id9 ⟨87, 13, [.agg (a.1.map vI ++ [.nils])]⟩) := (O6.sub s9).new z9
  refine Runs.call rfl rfl rfl (ih _ id a.2.1 a.2.2 (by omega) (by omega) h9) ?_
  rw [hn]
  rintro r3 σ10 ⟨rfl, hσ10⟩
  have hσ10 : σ10 = upd (upd σ9 id9 ⟨87, 13, [.agg (a.1.map vI ++ [.nils])]⟩) id (rdr nn.2.1 nn.2.2) := hσ10
  have O10 : Off id σ σ10 := by rw [hσ10]; exact O9.upd
  have h10 : σ10 id = some (rdr nn.2.1 nn.2.2) := by rw [hσ10]; exact upd_same
  have b10 : σ10 id9 = some ⟨87, 13, [.agg (a.1.map vI ++ [.nils])]⟩ := by rw [hσ10, upd_ne n9.symm]; exact upd_same
  have hs1 := set_block hsl (.sl 1 (nn.1.map encS)) rfl rfl
  have hcs : (V.sl 1 (nn.1.map encS)).cells = [.sl 1 (nn.1.map encS)] := rfl
  rw [hcs] at hs1
  (refine Runs.of_step Orc.nothing 300 ?_; simp -implicitDefEqProofs only [BB,seval,effR_some,effD_some,← decide_not,okind,vpre,vpure,intBin,intPre,strBin,strPre,popTo,argSlots,fldV,fldAV,subCells,idxVV,idxAAV,idxSV,sliceV,sliceSV,boundV,szIs,storeOp,storeS,eff,extV,buildV,splice,eqSV,fitsL,eqCells,eqCell,minmaxV,capV,binBV,nilCheckV,bytesV,V.cells,V.stays,Orc.nothing,b10,hs1])
  have O11 : Off id σ (upd σ10 id9 ⟨87, 13, [.agg (a.1.map vI ++ [.sl 1 (nn.1.map encS)])]⟩) := O10.new z9
  have h11 : upd σ10 id9 ⟨87, 13, [.agg (a.1.map vI ++ [.sl 1 (nn.1.map encS)])]⟩ id = some (rdr nn.2.1 nn.2.2) := by rw [upd_ne n9]; exact h10
  refine Runs.call rfl rfl rfl (take_c 93 h11) ?_
  rw [htk]
  rintro r4 σ12 ⟨rfl, hσ12⟩
  have hσ12 : σ12 = upd (upd σ10 id9 ⟨87, 13, [.agg (a.1.map vI ++ [.sl 1 (nn.1.map encS)])]⟩) id (rdr c.1 c.2) := hσ12
  have O12 : Off id σ σ12 := by rw [hσ12]; exact O11.upd
  have h12 : σ12 id = some (rdr c.1 c.2) := by rw [hσ12]; exact upd_same
  have b12 : σ12 id9 = some ⟨87, 13, [.agg (a.1.map vI ++ [.sl 1 (nn.1.map encS)])]⟩ := by rw [hσ12, upd_ne n9.symm]; exact upd_same
  have hl13 : (a.1.map vI ++ [V.sl 1 (nn.1.map encS)]).length = 13 := by simp [hsl]
  (refine Runs.of_step Orc.nothing 300 ?_; simp -implicitDefEqProofs only [BB,seval,effR_some,effD_some,← decide_not,okind,vpre,vpure,intBin,intPre,strBin,strPre,popTo,argSlots,fldV,fldAV,subCells,idxVV,idxAAV,idxSV,sliceV,sliceSV,boundV,szIs,storeOp,storeS,setRowV,eff,extV,buildV,splice,eqSV,fitsL,eqCells,eqCell,minmaxV,capV,binBV,nilCheckV,bytesV,V.cells,V.stays,Orc.nothing,b12,V.cells_agg,hl13])
  exact O12.retv h12 (by simp [encS, encSs_eq])
end Go.Vc
namespace Go.Vc
open Go.Proofs
theorem keepA {K J τ τ' : Store} {idA : Option Nat} (hA : ∀ i, idA = some i → K i = none ∧ ∃ o, J i = some o) (s : SubStore (delO τ idA) τ') (q : Nat) (o : Ob) (hq : K q ≠ none) (ho : τ q = some o) : τ' q = some o := by
  refine s _ _ ?_
  cases h : idA with
  | none => exact ho
  | some j =>
    have hj := (hA j h).1
    have : q ≠ j := fun e => hq (by rw [e]; exact hj)
    show del τ j q = some o
    rw [del_ne this]
    exact ho
theorem encS_cells (x : Shp) : (encS x).cells = [encS x] := by cases x <;> simp [encS, V.cells]
theorem encS_stays (x : Shp) : (encS x).stays = true := by cases x <;> simp [encS, V.stays]
structure NInv (σ0 σ : Store) (id : Nat) (v : V) (xs : List Shp) (l : List Tk) (w : Bool) : Prop where
  off : Off id σ0 σ
  rd : σ id = some (rdr l w)
  out : OutV σ0 σ 79 1 v (xs.map encS)
  len : xs.length + l.length ≤ 1000000
theorem outOff {σ σc σd : Store} {id e sz : Nat} {X : Ob} {v : V} {rows : List V} (h : σ id ≠ none) (ho : OutV σ σc e sz v rows) (hd : σd = upd σc id X) : OutV σ σd e sz v rows := by
  rcases ho with h1 | ⟨q, g1, g2, g3⟩
  · exact .inl h1
  · have hq : q ≠ id := fun e => h (by rw [← e]; exact g3)
    exact .inr ⟨q, g1, by rw [hd, upd_ne hq]; exact g2, g3⟩
theorem NInv.push {σ σd σ21 σ22 : Store} {id id22 : Nat} {xs : List Shp} {l : List Tk} {w : Bool} {x : Shp} {idA : Option Nat} (off : Off id σ σd) (rd : σd id = some (rdr l w)) (h : σ id ≠ none) (s21 : SubStore σd σ21)
    (hA : ∀ i, idA = some i → σ i = none ∧ ∃ o, σd i = some o) (s22 : SubStore (delO σ21 idA) σ22) (a22 : σ22 id22 = some ⟨79, 1, xs.map encS ++ [encS x]⟩) (f22 : σ21 id22 = none) (hl : xs.length + 1 + l.length ≤ 1000000) :
    NInv σ σ22 id (.own id22 0 (xs.length + 1)) (xs ++ [x]) l w where
  off := fun q hq o ho => keepA hA s22 q o (by rw [ho]; simp) (s21 _ _ (off q hq o ho))
  rd := keepA hA s22 id _ h (s21 _ _ rd)
  out := by
    rw [List.map_append]
    exact OutV.new (by simp) a22 (off.none rd (s21.none f22))
  len := by simp only [List.length_append,List.length_cons,List.length_nil]; omega
theorem nodesR_len : ∀ (f : Nat) (l : List Tk), (nodesR f l).2.1.length ≤ l.length
  | 0, l => Nat.le_refl _
  | f + 1, l => by
    have hT : ∀ l w, (if w = true then (([] : List Shp), l, true) else nodesR f l).2.1.length ≤ l.length := by
      intro l w
      split
      · exact Nat.le_refl _
      · exact nodesR_len f l
    unfold nodesR
    split
    · rename_i hs
      have h1 := (takeR_yes hs).2
      have h2 := (attrsT_len (fun _ => true) plainS l.tail false).2
      have h3 := hT (attrsT (fun _ => true) plainS l.tail false).2.1 (attrsT (fun _ => true) plainS l.tail false).2.2
      simp only
      generalize attrsT (fun _ => true) plainS l.tail false = a at *
      generalize (if a.2.2 = true then (([] : List Shp), a.2.1, true) else nodesR f a.2.1) = n at *
      have h4 := takeR_len 93 n.2.1 n.2.2
      generalize takeR 93 n.2.1 n.2.2 = c at *
      have h5 := hT c.1 c.2
      omega
    · split
      · rename_i hs
        have h1 := textR_len hs
        simp only
        have h5 := hT (textR l).2.1 (textR l).2.2
        omega
      · split
        · rename_i hs
          have h1 := (takeR_yes hs).2
          have h2 := boxR_len 125 l.tail false
          simp only
          have h5 := hT (boxR 125 l.tail false).2.2.1 (boxR 125 l.tail false).2.2.2
          omega
        · split
          · rename_i hs
            have h1 := floatR_len hs
            simp only
            have h5 := hT (floatR l false).2.1 (floatR l false).2.2
            omega
          · exact Nat.le_refl _
theorem nodesT_len (f : Nat) (l : List Tk) (w : Bool) : (nodesT f l w).2.1.length ≤ l.length := by
  unfold nodesT
  split
  · exact Nat.le_refl _
  · exact nodesR_len f l
set_option maxRecDepth 100000 in
theorem nodes_c (f : Nat) : NodesC f := by
  induction f using Nat.strongRecOn with
  | _ f ih =>
    intro σ id l w hlf hl h
    refine Contract.of_runs Tryz.func13 e13 k13 (by simp [c13]) ?_
    refine Runs.mix 4 ?_
    have hσ : σ id ≠ none := by rw [h]; simp
    (refine Runs.of_step Orc.nothing 300 ?_; simp -implicitDefEqProofs only [BB,seval,effR_some,effD_some,← decide_not,okind,vpre,vpure,intBin,intPre,strBin,strPre,popTo,argSlots,fldV,fldAV,subCells,idxVV,idxAAV,idxSV,sliceV,sliceSV,boundV,szIs,storeOp,storeS,setRowV,eff,extV,buildV,splice,eqSV,fitsL,eqCells,eqCell,minmaxV,capV,binBV,nilCheckV,bytesV,V.cells,V.stays,Orc.nothing,c13])
    refine Runs.loop (fun m st => ∃ fu xs l' w', m = l'.length ∧ l'.length ≤ fu ∧ fu ≤ f ∧ nodesT f l w = (xs ++ (nodesT fu l' w').1, (nodesT fu l' w').2) ∧ NInv σ st.σ id (st.s 3) xs l' w' ∧ st.s 0 = .ptr id 0 0) l.length
      ⟨f, [], l, w, rfl, hlf, Nat.le_refl _, rfl, { off := Off.refl id σ, rd := h, out := OutV.start, len := by simpa using hl }, rfl⟩ ?_
    rintro m ⟨S, σc⟩ ⟨fu, xs, l', w', rfl, hfu, hff, hT, inv, p0⟩
    simp only at inv p0
    have rd := inv.rd
    have hlen := inv.len
    have fin : nodesT fu l' w' = ([], l', w') → RetV (S 3) σc fun r σ' => r = .sl 1 ((nodesT f l w).1.map encS) ∧ σ' = upd σ id (rdr (nodesT f l w).2.1 (nodesT f l w).2.2) := by
      intro e
      rw [hT, e, List.append_nil]
      have hout : OutV (upd σ id (rdr l' w')) σc 79 1 (S 3) (xs.map encS) := by
        rcases inv.out with h1 | ⟨q, g1, g2, g3⟩
        · exact .inl h1
        · have hq : q ≠ id := fun e => hσ (by rw [← e]; exact g3)
          exact .inr ⟨q, g1, g2, by rw [upd_ne hq]; exact g3⟩
      exact hout.retv (inv.off.to rd) rfl
    refine Runs.mix 4 ?_
    cases w' with
    | true =>
      (refine Runs.of_step Orc.nothing 300 ?_; simp -implicitDefEqProofs only [BB,seval,effR_some,effD_some,← decide_not,okind,vpre,vpure,intBin,intPre,strBin,strPre,popTo,argSlots,fldV,fldAV,subCells,idxVV,idxAAV,idxSV,sliceV,sliceSV,boundV,szIs,storeOp,storeS,setRowV,eff,extV,buildV,splice,eqSV,fitsL,eqCells,eqCell,minmaxV,capV,binBV,nilCheckV,bytesV,V.cells,V.stays,Orc.nothing,p0,rd])
      exact fin rfl
    | false =>
      have step : ∀ c, signB c l' = true → ∃ g, fu = g + 1 ∧ l'.tail.length + 1 = l'.length ∧ takeR c l' false = (l'.tail, false) := by
        intro c hc
        obtain ⟨e1, e2⟩ := takeR_yes hc
        cases fu with
        | zero => omega
        | succ g => exact ⟨g, rfl, e2, e1⟩
      (refine Runs.of_step Orc.nothing 300 ?_; simp -implicitDefEqProofs only [BB,seval,effR_some,effD_some,← decide_not,okind,vpre,vpure,intBin,intPre,strBin,strPre,popTo,argSlots,fldV,fldAV,subCells,idxVV,idxAAV,idxSV,sliceV,sliceSV,boundV,szIs,storeOp,storeS,setRowV,eff,extV,buildV,splice,eqSV,fitsL,eqCells,eqCell,minmaxV,capV,binBV,nilCheckV,bytesV,V.cells,V.stays,Orc.nothing,p0,rd])
      refine Runs.pcall rfl rfl rfl (rsign_c l' 91 _) ?_
      cases hs91 : signB 91 l' with
      | true =>
        obtain ⟨g, rfl, hlt, htk⟩ := step 91 hs91
        (refine Runs.of_step Orc.nothing 300 ?_; simp -implicitDefEqProofs only [BB,seval,effR_some,effD_some,← decide_not,okind,vpre,vpure,intBin,intPre,strBin,strPre,popTo,argSlots,fldV,fldAV,subCells,idxVV,idxAAV,idxSV,sliceV,sliceSV,boundV,szIs,storeOp,storeS,setRowV,eff,extV,buildV,splice,eqSV,fitsL,eqCells,eqCell,minmaxV,capV,binBV,nilCheckV,bytesV,V.cells,V.stays,Orc.nothing,p0])
        refine Runs.call rfl rfl rfl (block_c (ih g (by omega)) rd hfu (by omega) hs91) ?_
        have hal := attrsT_len (fun _ => true) plainS l'.tail false
        have hnl := nodesT_len g (attrsT (fun _ => true) plainS l'.tail false).2.1 (attrsT (fun _ => true) plainS l'.tail false).2.2
        have hst : nodesT (g + 1) l' false = (Shp.block (attrsT (fun _ => true) plainS l'.tail false).1 (nodesT g (attrsT (fun _ => true) plainS l'.tail false).2.1 (attrsT (fun _ => true) plainS l'.tail false).2.2).1 :: (nodesT g (takeR 93 (nodesT g (attrsT (fun _ => true) plainS l'.tail false).2.1 (attrsT (fun _ => true) plainS l'.tail false).2.2).2.1 (nodesT g (attrsT (fun _ => true) plainS l'.tail false).2.1 (attrsT (fun _ => true) plainS l'.tail false).2.2).2.2).1 (takeR 93 (nodesT g (attrsT (fun _ => true) plainS l'.tail false).2.1 (attrsT (fun _ => true) plainS l'.tail false).2.2).2.1 (nodesT g (attrsT (fun _ => true) plainS l'.tail false).2.1 (attrsT (fun _ => true) plainS l'.tail false).2.2).2.2).2).1, (nodesT g (takeR 93 (nodesT g (attrsT (fun _ => true) plainS l'.tail false).2.1 (attrsT (fun _ => true) plainS l'.tail false).2.2).2.1 (nodesT g (attrsT (fun _ => true) plainS l'.tail false).2.1 (attrsT (fun _ => true) plainS l'.tail false).2.2).2.2).1 (takeR 93 (nodesT g (attrsT (fun _ => true) plainS l'.tail false).2.1 (attrsT (fun _ => true) plainS l'.tail false).2.2).2.1 (nodesT g (attrsT (fun _ => true) plainS l'.tail false).2.1 (attrsT (fun _ => true) plainS l'.tail false).2.2).2.2).2).2) := by
          show nodesR (g + 1) l' = _
          rw [nodesR, if_pos hs91]; rfl
        generalize attrsT (fun _ => true) plainS l'.tail false = a at *
        generalize nodesT g a.2.1 a.2.2 = nn at *
        have hcl := takeR_len 93 nn.2.1 nn.2.2
        generalize takeR 93 nn.2.1 nn.2.2 = c at *
        rintro r1 σd ⟨rfl, hσd⟩
        have hσd : σd = upd σc id (rdr c.1 c.2) := hσd
        have hstep : nodesT (g + 1) l' false = (Shp.block a.1 nn.1 :: (nodesT g c.1 c.2).1, (nodesT g c.1 c.2).2) := by
          exact hst
        have hle : c.1.length + 1 ≤ l'.length := by
          omega
        rw [hstep] at hT
        have hxc := encS_cells (Shp.block a.1 nn.1)
        have hxs := encS_stays (Shp.block a.1 nn.1)
        have hout := outOff hσ inv.out hσd
        have Od : Off id σ σd := by rw [hσd]; exact inv.off.upd
        have hd : σd id = some (rdr c.1 c.2) := by rw [hσd]; exact upd_same
        generalize hX : Shp.block a.1 nn.1 = X at *
        generalize hvx : encS X = vx at *
        (refine Runs.of_step Orc.nothing 300 ?_; simp -implicitDefEqProofs only [BB,seval,← decide_not,okind,vpre,vpure,intBin,intPre,strBin,strPre,popTo,argSlots,fldV,fldAV,subCells,idxVV,idxAAV,idxSV,sliceV,sliceSV,boundV,szIs,storeOp,storeS,setRowV,eff,extV,buildV,splice,eqSV,fitsL,eqCells,eqCell,minmaxV,capV,binBV,nilCheckV,bytesV,Orc.nothing,V.cells_agg,V.cells_int,V.cells_nils,V.cells_own,V.cells_sl,V.cells_str,V.cells_bool,V.cells_fn,V.cells_ptr,V.cells_rp,V.stays_agg,V.stays_int,V.stays_nils,V.stays_own,V.stays_sl,V.stays_str,V.stays_bool,V.stays_fn,V.stays_ptr,V.stays_rp,hxc,hxs])
        refine effR_new fun id21 σ21 s21 a21 f21 => ?_
        obtain ⟨idA, hda, hdA⟩ := hout.dst' s21
        have hb : (xs.length + 1) * 17 ≤ 140737488355328 := by omega
        simp -implicitDefEqProofs only [BB,seval,← decide_not,okind,vpre,vpure,intBin,intPre,strBin,strPre,popTo,argSlots,fldV,fldAV,subCells,idxVV,idxAAV,idxSV,sliceV,sliceSV,boundV,szIs,storeOp,storeS,setRowV,eff,extV,buildV,splice,eqSV,fitsL,eqCells,eqCell,minmaxV,capV,binBV,nilCheckV,bytesV,V.cells_agg,V.cells_int,V.cells_nils,V.cells_own,V.cells_sl,V.cells_str,V.cells_bool,V.cells_fn,V.cells_ptr,V.cells_rp,V.stays_agg,V.stays_int,V.stays_nils,V.stays_own,V.stays_sl,V.stays_str,V.stays_bool,V.stays_fn,V.stays_ptr,V.stays_rp,hxc,hxs,hda,srcOne a21,List.length_map,hb]
        refine effR_put fun id22 σ22 s22 a22 f22 => ?_
        simp -implicitDefEqProofs only [BB,seval,← decide_not,okind,vpre,vpure,intBin,intPre,strBin,strPre,popTo,argSlots,fldV,fldAV,subCells,idxVV,idxAAV,idxSV,sliceV,sliceSV,boundV,szIs,storeOp,storeS,setRowV,eff,extV,buildV,splice,eqSV,fitsL,eqCells,eqCell,minmaxV,capV,binBV,nilCheckV,bytesV,V.cells,V.stays,p0]
        subst hvx
        refine ⟨c.1.length, by omega, g, xs ++ [X], c.1, c.2, rfl, by omega, by omega, by rw [hT]; simp, ?_⟩
        exact NInv.push Od hd hσ s21 hdA s22 (by exact a22) f22 (by omega)
      | false =>
        (refine Runs.of_step Orc.nothing 300 ?_; simp -implicitDefEqProofs only [BB,seval,effR_some,effD_some,← decide_not,okind,vpre,vpure,intBin,intPre,strBin,strPre,popTo,argSlots,fldV,fldAV,subCells,idxVV,idxAAV,idxSV,sliceV,sliceSV,boundV,szIs,storeOp,storeS,setRowV,eff,extV,buildV,splice,eqSV,fitsL,eqCells,eqCell,minmaxV,capV,binBV,nilCheckV,bytesV,V.cells,V.stays,Orc.nothing,p0,rd])
        refine Runs.pcall rfl rfl rfl (rsign_c l' 40 _) ?_
        cases hs40 : signB 40 l' with
        | true =>
          obtain ⟨g, rfl, hlt, htk⟩ := step 40 hs40
          (refine Runs.of_step Orc.nothing 300 ?_; simp -implicitDefEqProofs only [BB,seval,effR_some,effD_some,← decide_not,okind,vpre,vpure,intBin,intPre,strBin,strPre,popTo,argSlots,fldV,fldAV,subCells,idxVV,idxAAV,idxSV,sliceV,sliceSV,boundV,szIs,storeOp,storeS,setRowV,eff,extV,buildV,splice,eqSV,fitsL,eqCells,eqCell,minmaxV,capV,binBV,nilCheckV,bytesV,V.cells,V.stays,Orc.nothing,p0])
          refine Runs.call rfl rfl rfl (rtxt_c rd (by omega) hs40) ?_
          have hcl := textR_len hs40
          have hst : nodesT (g + 1) l' false = (Shp.text (textR l').1 :: (nodesT g (textR l').2.1 (textR l').2.2).1, (nodesT g (textR l').2.1 (textR l').2.2).2) := by
            show nodesR (g + 1) l' = _
            rw [nodesR, if_neg (by simp [hs91]), if_pos hs40]; rfl
          generalize textR l' = c at *
          rintro r1 σd ⟨rfl, hσd⟩
          have hσd : σd = upd σc id (rdr c.2.1 c.2.2) := hσd
          have hstep : nodesT (g + 1) l' false = (Shp.text c.1 :: (nodesT g c.2.1 c.2.2).1, (nodesT g c.2.1 c.2.2).2) := by
            exact hst
          have hle : c.2.1.length + 1 ≤ l'.length := by
            omega
          rw [hstep] at hT
          have hxc := encS_cells (Shp.text c.1)
          have hxs := encS_stays (Shp.text c.1)
          have hout := outOff hσ inv.out hσd
          have Od : Off id σ σd := by rw [hσd]; exact inv.off.upd
          have hd : σd id = some (rdr c.2.1 c.2.2) := by rw [hσd]; exact upd_same
          generalize hX : Shp.text c.1 = X at *
          generalize hvx : encS X = vx at *
          (refine Runs.of_step Orc.nothing 300 ?_; simp -implicitDefEqProofs only [BB,seval,← decide_not,okind,vpre,vpure,intBin,intPre,strBin,strPre,popTo,argSlots,fldV,fldAV,subCells,idxVV,idxAAV,idxSV,sliceV,sliceSV,boundV,szIs,storeOp,storeS,setRowV,eff,extV,buildV,splice,eqSV,fitsL,eqCells,eqCell,minmaxV,capV,binBV,nilCheckV,bytesV,Orc.nothing,V.cells_agg,V.cells_int,V.cells_nils,V.cells_own,V.cells_sl,V.cells_str,V.cells_bool,V.cells_fn,V.cells_ptr,V.cells_rp,V.stays_agg,V.stays_int,V.stays_nils,V.stays_own,V.stays_sl,V.stays_str,V.stays_bool,V.stays_fn,V.stays_ptr,V.stays_rp,hxc,hxs])
          refine effR_new fun id21 σ21 s21 a21 f21 => ?_
          obtain ⟨idA, hda, hdA⟩ := hout.dst' s21
          have hb : (xs.length + 1) * 17 ≤ 140737488355328 := by omega
          simp -implicitDefEqProofs only [BB,seval,← decide_not,okind,vpre,vpure,intBin,intPre,strBin,strPre,popTo,argSlots,fldV,fldAV,subCells,idxVV,idxAAV,idxSV,sliceV,sliceSV,boundV,szIs,storeOp,storeS,setRowV,eff,extV,buildV,splice,eqSV,fitsL,eqCells,eqCell,minmaxV,capV,binBV,nilCheckV,bytesV,V.cells_agg,V.cells_int,V.cells_nils,V.cells_own,V.cells_sl,V.cells_str,V.cells_bool,V.cells_fn,V.cells_ptr,V.cells_rp,V.stays_agg,V.stays_int,V.stays_nils,V.stays_own,V.stays_sl,V.stays_str,V.stays_bool,V.stays_fn,V.stays_ptr,V.stays_rp,hxc,hxs,hda,srcOne a21,List.length_map,hb]
          refine effR_put fun id22 σ22 s22 a22 f22 => ?_
          simp -implicitDefEqProofs only [BB,seval,← decide_not,okind,vpre,vpure,intBin,intPre,strBin,strPre,popTo,argSlots,fldV,fldAV,subCells,idxVV,idxAAV,idxSV,sliceV,sliceSV,boundV,szIs,storeOp,storeS,setRowV,eff,extV,buildV,splice,eqSV,fitsL,eqCells,eqCell,minmaxV,capV,binBV,nilCheckV,bytesV,V.cells,V.stays,p0]
          subst hvx
          refine ⟨c.2.1.length, by omega, g, xs ++ [X], c.2.1, c.2.2, rfl, by omega, by omega, by rw [hT]; simp, ?_⟩
          exact NInv.push Od hd hσ s21 hdA s22 (by exact a22) f22 (by omega)
        | false =>
          (refine Runs.of_step Orc.nothing 300 ?_; simp -implicitDefEqProofs only [BB,seval,effR_some,effD_some,← decide_not,okind,vpre,vpure,intBin,intPre,strBin,strPre,popTo,argSlots,fldV,fldAV,subCells,idxVV,idxAAV,idxSV,sliceV,sliceSV,boundV,szIs,storeOp,storeS,setRowV,eff,extV,buildV,splice,eqSV,fitsL,eqCells,eqCell,minmaxV,capV,binBV,nilCheckV,bytesV,V.cells,V.stays,Orc.nothing,p0,rd])
          refine Runs.pcall rfl rfl rfl (rsign_c l' 123 _) ?_
          cases hs123 : signB 123 l' with
          | true =>
            obtain ⟨g, rfl, hlt, htk⟩ := step 123 hs123
            (refine Runs.of_step Orc.nothing 300 ?_; simp -implicitDefEqProofs only [BB,seval,effR_some,effD_some,← decide_not,okind,vpre,vpure,intBin,intPre,strBin,strPre,popTo,argSlots,fldV,fldAV,subCells,idxVV,idxAAV,idxSV,sliceV,sliceSV,boundV,szIs,storeOp,storeS,setRowV,eff,extV,buildV,splice,eqSV,fitsL,eqCells,eqCell,minmaxV,capV,binBV,nilCheckV,bytesV,V.cells,V.stays,Orc.nothing,p0])
            refine Runs.call rfl rfl rfl (take_c 123 rd) ?_
            rw [htk]
            rintro r0 σb ⟨rfl, hσb⟩
            have hσb : σb = upd σc id (rdr l'.tail false) := hσb
            have hb0 : σb id = some (rdr l'.tail false) := by rw [hσb]; exact upd_same
            (refine Runs.of_step Orc.nothing 300 ?_; simp -implicitDefEqProofs only [BB,seval,effR_some,effD_some,← decide_not,okind,vpre,vpure,intBin,intPre,strBin,strPre,popTo,argSlots,fldV,fldAV,subCells,idxVV,idxAAV,idxSV,sliceV,sliceSV,boundV,szIs,storeOp,storeS,setRowV,eff,extV,buildV,splice,eqSV,fitsL,eqCells,eqCell,minmaxV,capV,binBV,nilCheckV,bytesV,V.cells,V.stays,Orc.nothing,p0])
            refine Runs.call rfl rfl rfl (box_c 125 hb0) ?_
            have hcl := boxR_len 125 l'.tail false
            have hst : nodesT (g + 1) l' false = (Shp.box (boxR 125 l'.tail false).1 (boxR 125 l'.tail false).2.1 :: (nodesT g (boxR 125 l'.tail false).2.2.1 (boxR 125 l'.tail false).2.2.2).1, (nodesT g (boxR 125 l'.tail false).2.2.1 (boxR 125 l'.tail false).2.2.2).2) := by
              show nodesR (g + 1) l' = _
              rw [nodesR, if_neg (by simp [hs91]), if_neg (by simp [hs40]), if_pos hs123]; rfl
            generalize boxR 125 l'.tail false = c at *
            rintro r1 σd ⟨rfl, hσd⟩
            have hσd : σd = upd σc id (rdr c.2.2.1 c.2.2.2) := by rw [show σd = upd σb id (rdr c.2.2.1 c.2.2.2) from hσd, hσb, upd_upd]
            have hstep : nodesT (g + 1) l' false = (Shp.box c.1 c.2.1 :: (nodesT g c.2.2.1 c.2.2.2).1, (nodesT g c.2.2.1 c.2.2.2).2) := by
              exact hst
            have hle : c.2.2.1.length + 1 ≤ l'.length := by
              omega
            rw [hstep] at hT
            have hxc := encS_cells (Shp.box c.1 c.2.1)
            have hxs := encS_stays (Shp.box c.1 c.2.1)
            have hout := outOff hσ inv.out hσd
            have Od : Off id σ σd := by rw [hσd]; exact inv.off.upd
            have hd : σd id = some (rdr c.2.2.1 c.2.2.2) := by rw [hσd]; exact upd_same
            generalize hX : Shp.box c.1 c.2.1 = X at *
            generalize hvx : encS X = vx at *
            (refine Runs.of_step Orc.nothing 300 ?_; simp -implicitDefEqProofs only [BB,seval,← decide_not,okind,vpre,vpure,intBin,intPre,strBin,strPre,popTo,argSlots,fldV,fldAV,subCells,idxVV,idxAAV,idxSV,sliceV,sliceSV,boundV,szIs,storeOp,storeS,setRowV,eff,extV,buildV,splice,eqSV,fitsL,eqCells,eqCell,minmaxV,capV,binBV,nilCheckV,bytesV,Orc.nothing,V.cells_agg,V.cells_int,V.cells_nils,V.cells_own,V.cells_sl,V.cells_str,V.cells_bool,V.cells_fn,V.cells_ptr,V.cells_rp,V.stays_agg,V.stays_int,V.stays_nils,V.stays_own,V.stays_sl,V.stays_str,V.stays_bool,V.stays_fn,V.stays_ptr,V.stays_rp,hxc,hxs])
            refine effR_new fun id21 σ21 s21 a21 f21 => ?_
            obtain ⟨idA, hda, hdA⟩ := hout.dst' s21
            have hb : (xs.length + 1) * 17 ≤ 140737488355328 := by omega
            simp -implicitDefEqProofs only [BB,seval,← decide_not,okind,vpre,vpure,intBin,intPre,strBin,strPre,popTo,argSlots,fldV,fldAV,subCells,idxVV,idxAAV,idxSV,sliceV,sliceSV,boundV,szIs,storeOp,storeS,setRowV,eff,extV,buildV,splice,eqSV,fitsL,eqCells,eqCell,minmaxV,capV,binBV,nilCheckV,bytesV,V.cells_agg,V.cells_int,V.cells_nils,V.cells_own,V.cells_sl,V.cells_str,V.cells_bool,V.cells_fn,V.cells_ptr,V.cells_rp,V.stays_agg,V.stays_int,V.stays_nils,V.stays_own,V.stays_sl,V.stays_str,V.stays_bool,V.stays_fn,V.stays_ptr,V.stays_rp,hxc,hxs,hda,srcOne a21,List.length_map,hb]
            refine effR_put fun id22 σ22 s22 a22 f22 => ?_
            simp -implicitDefEqProofs only [BB,seval,← decide_not,okind,vpre,vpure,intBin,intPre,strBin,strPre,popTo,argSlots,fldV,fldAV,subCells,idxVV,idxAAV,idxSV,sliceV,sliceSV,boundV,szIs,storeOp,storeS,setRowV,eff,extV,buildV,splice,eqSV,fitsL,eqCells,eqCell,minmaxV,capV,binBV,nilCheckV,bytesV,V.cells,V.stays,p0]
            subst hvx
            refine ⟨c.2.2.1.length, by omega, g, xs ++ [X], c.2.2.1, c.2.2.2, rfl, by omega, by omega, by rw [hT]; simp, ?_⟩
            exact NInv.push Od hd hσ s21 hdA s22 (by subst hX; simpa [encS] using a22) f22 (by omega)
          | false =>
            (refine Runs.of_step Orc.nothing 300 ?_; simp -implicitDefEqProofs only [BB,seval,effR_some,effD_some,← decide_not,okind,vpre,vpure,intBin,intPre,strBin,strPre,popTo,argSlots,fldV,fldAV,subCells,idxVV,idxAAV,idxSV,sliceV,sliceSV,boundV,szIs,storeOp,storeS,setRowV,eff,extV,buildV,splice,eqSV,fitsL,eqCells,eqCell,minmaxV,capV,binBV,nilCheckV,bytesV,V.cells,V.stays,Orc.nothing,p0,rd])
            refine Runs.pcall rfl rfl rfl (rsign_c l' 60 _) ?_
            cases hs60 : signB 60 l' with
            | true =>
              obtain ⟨g, rfl, hlt, htk⟩ := step 60 hs60
              (refine Runs.of_step Orc.nothing 300 ?_; simp -implicitDefEqProofs only [BB,seval,effR_some,effD_some,← decide_not,okind,vpre,vpure,intBin,intPre,strBin,strPre,popTo,argSlots,fldV,fldAV,subCells,idxVV,idxAAV,idxSV,sliceV,sliceSV,boundV,szIs,storeOp,storeS,setRowV,eff,extV,buildV,splice,eqSV,fitsL,eqCells,eqCell,minmaxV,capV,binBV,nilCheckV,bytesV,V.cells,V.stays,Orc.nothing,p0])
              refine Runs.call rfl rfl rfl (float_c rd) ?_
              have hcl := floatR_len hs60
              have hst : nodesT (g + 1) l' false = ((floatR l' false).1 :: (nodesT g (floatR l' false).2.1 (floatR l' false).2.2).1, (nodesT g (floatR l' false).2.1 (floatR l' false).2.2).2) := by
                show nodesR (g + 1) l' = _
                rw [nodesR, if_neg (by simp [hs91]), if_neg (by simp [hs40]), if_neg (by simp [hs123]), if_pos hs60]; rfl
              generalize floatR l' false = c at *
              rintro r1 σd ⟨rfl, hσd⟩
              have hσd : σd = upd σc id (rdr c.2.1 c.2.2) := hσd
              have hstep : nodesT (g + 1) l' false = (c.1 :: (nodesT g c.2.1 c.2.2).1, (nodesT g c.2.1 c.2.2).2) := by
                exact hst
              have hle : c.2.1.length + 1 ≤ l'.length := by
                omega
              rw [hstep] at hT
              have hxc := encS_cells (c.1)
              have hxs := encS_stays (c.1)
              have hout := outOff hσ inv.out hσd
              have Od : Off id σ σd := by rw [hσd]; exact inv.off.upd
              have hd : σd id = some (rdr c.2.1 c.2.2) := by rw [hσd]; exact upd_same
              generalize hX : c.1 = X at *
              generalize hvx : encS X = vx at *
              (refine Runs.of_step Orc.nothing 300 ?_; simp -implicitDefEqProofs only [BB,seval,← decide_not,okind,vpre,vpure,intBin,intPre,strBin,strPre,popTo,argSlots,fldV,fldAV,subCells,idxVV,idxAAV,idxSV,sliceV,sliceSV,boundV,szIs,storeOp,storeS,setRowV,eff,extV,buildV,splice,eqSV,fitsL,eqCells,eqCell,minmaxV,capV,binBV,nilCheckV,bytesV,Orc.nothing,V.cells_agg,V.cells_int,V.cells_nils,V.cells_own,V.cells_sl,V.cells_str,V.cells_bool,V.cells_fn,V.cells_ptr,V.cells_rp,V.stays_agg,V.stays_int,V.stays_nils,V.stays_own,V.stays_sl,V.stays_str,V.stays_bool,V.stays_fn,V.stays_ptr,V.stays_rp,hxc,hxs])
              refine effR_new fun id21 σ21 s21 a21 f21 => ?_
              obtain ⟨idA, hda, hdA⟩ := hout.dst' s21
              have hb : (xs.length + 1) * 17 ≤ 140737488355328 := by omega
              simp -implicitDefEqProofs only [BB,seval,← decide_not,okind,vpre,vpure,intBin,intPre,strBin,strPre,popTo,argSlots,fldV,fldAV,subCells,idxVV,idxAAV,idxSV,sliceV,sliceSV,boundV,szIs,storeOp,storeS,setRowV,eff,extV,buildV,splice,eqSV,fitsL,eqCells,eqCell,minmaxV,capV,binBV,nilCheckV,bytesV,V.cells_agg,V.cells_int,V.cells_nils,V.cells_own,V.cells_sl,V.cells_str,V.cells_bool,V.cells_fn,V.cells_ptr,V.cells_rp,V.stays_agg,V.stays_int,V.stays_nils,V.stays_own,V.stays_sl,V.stays_str,V.stays_bool,V.stays_fn,V.stays_ptr,V.stays_rp,hxc,hxs,hda,srcOne a21,List.length_map,hb]
              refine effR_put fun id22 σ22 s22 a22 f22 => ?_
              simp -implicitDefEqProofs only [BB,seval,← decide_not,okind,vpre,vpure,intBin,intPre,strBin,strPre,popTo,argSlots,fldV,fldAV,subCells,idxVV,idxAAV,idxSV,sliceV,sliceSV,boundV,szIs,storeOp,storeS,setRowV,eff,extV,buildV,splice,eqSV,fitsL,eqCells,eqCell,minmaxV,capV,binBV,nilCheckV,bytesV,V.cells,V.stays,p0]
              subst hvx
              refine ⟨c.2.1.length, by omega, g, xs ++ [X], c.2.1, c.2.2, rfl, by omega, by omega, by rw [hT]; simp, ?_⟩
              exact NInv.push Od hd hσ s21 hdA s22 (by exact a22) f22 (by omega)
            | false =>
              (refine Runs.of_step Orc.nothing 300 ?_; simp -implicitDefEqProofs only [BB,seval,effR_some,effD_some,← decide_not,okind,vpre,vpure,intBin,intPre,strBin,strPre,popTo,argSlots,fldV,fldAV,subCells,idxVV,idxAAV,idxSV,sliceV,sliceSV,boundV,szIs,storeOp,storeS,setRowV,eff,extV,buildV,splice,eqSV,fitsL,eqCells,eqCell,minmaxV,capV,binBV,nilCheckV,bytesV,V.cells,V.stays,Orc.nothing,p0])
              exact fin (by
                cases fu with
                | zero => rfl
                | succ g => show nodesR (g + 1) l' = _; rw [nodesR, if_neg (by simp [hs91]), if_neg (by simp [hs40]), if_neg (by simp [hs123]), if_neg (by simp [hs60])])
end Go.Vc
