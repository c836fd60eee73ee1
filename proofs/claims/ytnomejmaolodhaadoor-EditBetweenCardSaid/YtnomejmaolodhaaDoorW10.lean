/- Part 10 of the library of this proof. -/
import Derived.Test.YtnomejmaolodhaaDoorW9
import Derived.Shelf.Small.Strs
import Derived.Shelf.Strconv.Atoi
import Derived.Shelf.Strconv.Itoa3
import Derived.Shelf.Strconv.ErrVarAll
import Derived.Lib.AppendIntMem
import Derived.Lib.ItoaNum
set_option linter.all false
namespace Go.Vc
open Go.Proofs Go.RowKit
theorem Sat.below {w0 w w' : World} {ow0 : Nat → Prop} {μ : Mu} {σ : Store} (h : Sat w0 ow0 μ σ w) (hb : Below w.heap.size w w') : Sat w0 ow0 μ σ w' := by
  have hk : Keeps (Owned μ σ) (Owned μ σ) w w' := fun b hlt hn => ⟨hn, hb.block b hlt⟩
  refine ⟨Nat.le_trans h.size hb.size, hb.os.trans h.os, hb.tape.trans h.tape, hb.output.trans h.output, fun b hlt hn => (hb.block b (Nat.lt_of_lt_of_le hlt h.size)).trans (h.same b hlt hn), h.fin, h.inj,
    fun id ob ho => ?_, h.fresh, h.glob⟩
  exact (h.obj id ob ho).mono (MuLe.refl μ) hk hb.size fun b sz cap hp => hb.block b (Owned.lt h ⟨id, ob, sz, cap, ho, hp⟩)
end Go.Vc
namespace Go.Vc
open Go.Proofs Go.RowKit Go.Shelf
set_option maxHeartbeats 1000000 in
set_option maxRecDepth 100000 in
theorem copyCheck : CopyCheck Tryd.prog 53 68 where
  callable := by kernel_rfl
  fresh := by
    intro b T w n hn h0 hsh hlies hfz
    obtain ⟨j, hj, hjs⟩ := Option.map_eq_some_iff.1 (show (Tryd.prog.info? 68).map (·.size) = some 2 by kernel_rfl)
    go_enter Tryd.func53, Tryd.ntmps53
    go_wp2
    rw [Lib.run_to_unsafe w ⟨b, 0, none⟩ Tryd.underlying65 Tryd.underlying118 hj (by rw [hjs]; decide) hsh hn]
    simp only [Result.andThen]
    rw [Oper.upon_value]
    go_wp2
    rw [run_callFunc_extern Tryd.func63 (by kernel_rfl) (by kernel_rfl) (by kernel_rfl) (e := Extern.AbiNoEscape.same) (by kernel_rfl)]
    rw [Lib.run_noEscape]
    simp only [Result.andThen]
    rw [Oper.upon_value]
    go_wp2
    rw [Lib.run_from_unsafe w ⟨b, 0, none⟩ Tryd.underlying118 Tryd.underlying65 hj hsh hlies]
    simp only [Result.andThen]
    rw [Oper.upon_value]
    go_wp2
    go_end0
    exact ⟨rfl, rfl⟩
  used := by
    intro b w h0
    obtain ⟨j, hj, _⟩ := Option.map_eq_some_iff.1 (show (Tryd.prog.info? 68).map (·.size) = some 2 by kernel_rfl)
    go_enter Tryd.func53, Tryd.ntmps53
    go_wp2
    rw [Lib.run_neq_ptr_same w _ Tryd.underlying65 hj]
    go_wp2
    go_end0
    exact ⟨rfl, rfl⟩
theorem PFun.libG {P : Program} {f : FuncId} {args : List V} {v : V} {vals : List Value} (hcl : callable P f = true) (hargs : ∀ μ ow w l, RepAll μ ow w args l → l = vals)
    (h : ∀ w, Orig w → Calls P f vals.toArray w fun e w' => ∃ x, e = .returned x ∧ (∀ μ ow, Rep μ ow w' v x) ∧ Below w.heap.size w w') : PFun P f args v := by
  intro σ
  refine ⟨hcl, fun μ w l hs hr => ?_⟩
  obtain rfl := hargs _ _ _ _ hr
  obtain ⟨b, ho, _, hb⟩ := hs.globHere
  refine (h w (Orig.keep (fun i hi => (hb i hi).2) ho)).mono ?_
  rintro e w' ⟨x, rfl, hx, hb⟩
  exact ⟨v, σ, μ, x, rfl, ⟨rfl, rfl⟩, MuLe.refl μ, hs.below hb, hx _ _⟩
theorem itoaN_c (n : Int) (h0 : -9223372036854775808 ≤ n) (h1 : n ≤ 9223372036854775807) : PFun Tryd.prog 62 [vI n] (.str (Lib.itoa n)) := by
  refine PFun.libG (vals := [.int .i64 n]) (by kernel_rfl) (fun μ ow w l h => ?_) fun w hO => ?_
  · simpa [RepAll, Rep] using h
  · refine (Any.strconv_Itoa Tryd.laysM171 n h0 h1 w hO.1).mono ?_
    rintro e w' ⟨rfl, k, os, rfl⟩
    exact ⟨_, rfl, fun _ _ => by simp [Rep], Lib.below_grow _ w (Nat.le_refl _) k os⟩
def encB (l : List UInt8) : List V := l.map fun b => .int .u8 b.toNat
structure BT (T : TypeId) : Prop where
  lies : rowAt Tryd.prog (sameLayout Tryd.prog Tryd.prog.depth · 68) Tryd.prog.depth T 1 0 1 = true
  cells : Tryd.prog.cellsOf T = 2
theorem IsB.step {T u8 : TypeId} {K σ : Store} {id : Nat} {rows : List V} {l : List UInt8} {a : V} {idn : Nat} (hK : SubStore K σ) (hn : K id = none) (hid : σ id = some (bRow T a (.own idn 0 rows.length))) (ha : a = .nilp ∨ a = .ptr id 0 0) (hne : idn ≠ id) (hKn : K idn = none)
    (hrow : σ idn = some ⟨u8, 1, rows⟩) (hl : rows = l.map fun b => .int .u8 b.toNat) : IsB T u8 K σ id l := by
  subst hl
  exact ⟨hK, hn, a, _, hid, ha, .inr ⟨idn, rfl, hrow, by simp [Vc.upd, hne, hKn]⟩⟩
set_option maxRecDepth 100000 in
theorem wbyte_c {T : TypeId} (bt : BT T) {K σ : Store} {id : Nat} {l : List UInt8} (c : Int) (u : UInt8) (hc : c = u.toNat) (h : IsB T 5 K σ id l) (hl : l.length ≤ 1000000000) :
    Contract Tryd.prog 32 [.ptr id 0 0, .int .u8 c] σ fun r σ' => r = .niliface ∧ IsB T 5 K σ' id (l ++ [u]) := by
  obtain ⟨hK, hn, a, buf, hid, ha, hout⟩ := h
  subst hc
  refine Contract.of_runs Tryd.func32 e32 k32 (by simp [c32]) ?_
  refine Runs.mix 9 ?_
  (refine Runs.of_step Orc.nothing 300 ?_; simp -implicitDefEqProofs only [BB,seval,← decide_not,okind,vpre,vpure,intBin,intPre,strBin,strPre,popTo,argSlots,fldV,fldAV,subCells,idxVV,idxAAV,idxSV,sliceV,sliceSV,boundV,szIs,storeOp,storeS,setRowV,eff,extV,buildV,splice,eqSV,fitsL,eqCells,eqCell,minmaxV,capV,binBV,nilCheckV,bytesV,V.cells,V.stays,Orc.nothing,c32])
  refine Runs.call rfl rfl rfl (bcheck_c copyCheck bt.cells bt.lies hid ha) ?_
  rintro r σ1 ⟨rfl, rfl⟩
  have hK1 : SubStore (upd K id (bRow T (.ptr id 0 0) buf)) (upd σ id (bRow T (.ptr id 0 0) buf)) := hK.upd2
  have hout1 : OutV (upd K id (bRow T (.ptr id 0 0) buf)) (upd σ id (bRow T (.ptr id 0 0) buf)) 5 1 buf (encB l) := by
    rcases hout with h1 | ⟨i, h1, h2, h3⟩
    · exact .inl h1
    · have : i ≠ id := by rintro rfl; simp [Vc.upd] at h3
      exact .inr ⟨i, h1, by rw [upd_ne this]; exact h2, by rw [upd_ne this] at h3 ⊢; exact h3⟩
  generalize hσ1 : upd σ id (bRow T (.ptr id 0 0) buf) = σ1 at *
  have hid1 : σ1 id = some ⟨T, 2, [.agg [.ptr id 0 0, buf]]⟩ := hK1 _ _ upd_same
  (refine Runs.of_step Orc.nothing 300 ?_; simp -implicitDefEqProofs only [BB,seval,← decide_not,okind,vpre,vpure,intBin,intPre,strBin,strPre,popTo,argSlots,fldV,fldAV,subCells,idxVV,idxAAV,idxSV,sliceV,sliceSV,boundV,szIs,storeOp,storeS,setRowV,eff,extV,buildV,splice,eqSV,fitsL,eqCells,eqCell,minmaxV,capV,binBV,nilCheckV,bytesV,V.cells,V.stays,Orc.nothing,hid1])
  refine effR_new fun id2 σ2 s2 a2 f2 => ?_
  obtain ⟨idA, hda, hdel⟩ := hout1.dst s2
  have hb2 : (l.length + 1) * 2 ≤ 140737488355328 := by omega
  have hlb : (encB l).length = l.length := by simp [encB]
  simp -implicitDefEqProofs only [BB,seval,← decide_not,okind,vpre,vpure,intBin,intPre,strBin,strPre,popTo,argSlots,fldV,fldAV,subCells,idxVV,idxAAV,idxSV,sliceV,sliceSV,boundV,szIs,storeOp,storeS,setRowV,eff,extV,buildV,splice,eqSV,fitsL,eqCells,eqCell,minmaxV,capV,binBV,nilCheckV,bytesV,V.cells,V.stays,hda,srcOne a2,hlb,hb2]
  refine effR_put fun id3 σ3 s3 a3 f3 => ?_
  have k3 := (hdel _ (SubStore.refl _) σ2 (hK1.trans s2)).trans s3
  have hid3 : σ3 id = some ⟨T, 2, [.agg [.ptr id 0 0, buf]]⟩ := k3 _ _ upd_same
  have n3 : id ≠ id3 := ne_new (s2 _ _ hid1) f3
  have kK : SubStore K σ3 := ((SubStore.refl K).upd_new hn).trans k3
  have hKid3 : K id3 = none := ((SubStore.refl K).upd_new hn).none ((hK1.trans s2).none f3)
  simp -implicitDefEqProofs only [BB,seval,← decide_not,okind,vpre,vpure,intBin,intPre,strBin,strPre,popTo,argSlots,fldV,fldAV,subCells,idxVV,idxAAV,idxSV,sliceV,sliceSV,boundV,szIs,storeOp,storeS,setRowV,eff,extV,buildV,splice,eqSV,fitsL,eqCells,eqCell,minmaxV,capV,binBV,nilCheckV,bytesV,V.cells,V.stays,hid3,n3,n3.symm]
  refine ⟨_, _, SubStore.refl _, Wk.refl (SubStore.refl _) _, rfl, ?_⟩
  refine IsB.step (rows := encB l ++ [.int .u8 u.toNat]) (kK.updK hn) hn (a := .ptr id 0 0) (idn := id3) ?_ (.inr rfl) n3.symm hKid3 ?_ (by simp [encB])
  · rw [upd_same]; simp [bRow, hlb]
  · rw [upd_ne n3.symm]; exact a3
set_option maxRecDepth 100000 in
theorem wstr_c {T : TypeId} (bt : BT T) {K σ : Store} {id : Nat} {l : List UInt8} (s : List UInt8) (h : IsB T 5 K σ id l) (hl : l.length + s.length ≤ 1000000000) :
    Contract Tryd.prog 34 [.ptr id 0 0, .str s] σ fun r σ' => r = .tup [vI s.length, .niliface] ∧ IsB T 5 K σ' id (l ++ s) := by
  obtain ⟨hK, hn, a, buf, hid, ha, hout⟩ := h
  refine Contract.of_runs Tryd.func34 e34 k34 (by simp [c34]) ?_
  refine Runs.mix 9 ?_
  (refine Runs.of_step Orc.nothing 300 ?_; simp -implicitDefEqProofs only [BB,seval,← decide_not,okind,vpre,vpure,intBin,intPre,strBin,strPre,popTo,argSlots,fldV,fldAV,subCells,idxVV,idxAAV,idxSV,sliceV,sliceSV,boundV,szIs,storeOp,storeS,setRowV,eff,extV,buildV,splice,eqSV,fitsL,eqCells,eqCell,minmaxV,capV,binBV,nilCheckV,bytesV,V.cells,V.stays,Orc.nothing,c34])
  refine Runs.call rfl rfl rfl (bcheck_c copyCheck bt.cells bt.lies hid ha) ?_
  rintro r σ1 ⟨rfl, rfl⟩
  have hK1 : SubStore (upd K id (bRow T (.ptr id 0 0) buf)) (upd σ id (bRow T (.ptr id 0 0) buf)) := hK.upd2
  have hout1 : OutV (upd K id (bRow T (.ptr id 0 0) buf)) (upd σ id (bRow T (.ptr id 0 0) buf)) 5 1 buf (encB l) := by
    rcases hout with h1 | ⟨i, h1, h2, h3⟩
    · exact .inl h1
    · have : i ≠ id := by rintro rfl; simp [Vc.upd] at h3
      exact .inr ⟨i, h1, by rw [upd_ne this]; exact h2, by rw [upd_ne this] at h3 ⊢; exact h3⟩
  generalize hσ1 : upd σ id (bRow T (.ptr id 0 0) buf) = σ1 at *
  have hid1 : σ1 id = some ⟨T, 2, [.agg [.ptr id 0 0, buf]]⟩ := hK1 _ _ upd_same
  obtain ⟨idA, hda, hdel⟩ := hout1.dst (SubStore.refl σ1)
  have hlb : (encB l).length = l.length := by simp [encB]
  have hsb : (encB s).length = s.length := by simp [encB]
  have hsr : srcRows σ1 1 (.str s) = some (encB s) := rfl
  have hb2 : (l.length + s.length) * 2 ≤ 140737488355328 := by omega
  (refine Runs.of_step Orc.nothing 300 ?_; simp -implicitDefEqProofs only [BB,seval,← decide_not,okind,vpre,vpure,intBin,intPre,strBin,strPre,popTo,argSlots,fldV,fldAV,subCells,idxVV,idxAAV,idxSV,sliceV,sliceSV,boundV,szIs,storeOp,storeS,setRowV,eff,extV,buildV,splice,eqSV,fitsL,eqCells,eqCell,minmaxV,capV,binBV,nilCheckV,bytesV,V.cells,V.stays,Orc.nothing,hid1,hda,hsr,hlb,hsb,hb2])
  refine effR_put fun id3 σ3 s3 a3 f3 => ?_
  have k3 := (hdel _ (SubStore.refl _) σ1 hK1).trans s3
  have hid3 : σ3 id = some ⟨T, 2, [.agg [.ptr id 0 0, buf]]⟩ := k3 _ _ upd_same
  have n3 : id ≠ id3 := ne_new hid1 f3
  have kK : SubStore K σ3 := ((SubStore.refl K).upd_new hn).trans k3
  have hKid3 : K id3 = none := ((SubStore.refl K).upd_new hn).none (hK1.none f3)
  simp -implicitDefEqProofs only [BB,seval,← decide_not,okind,vpre,vpure,intBin,intPre,strBin,strPre,popTo,argSlots,fldV,fldAV,subCells,idxVV,idxAAV,idxSV,sliceV,sliceSV,boundV,szIs,storeOp,storeS,setRowV,eff,extV,buildV,splice,eqSV,fitsL,eqCells,eqCell,minmaxV,capV,binBV,nilCheckV,bytesV,V.cells,V.stays,hid3,n3,n3.symm]
  refine ⟨_, _, SubStore.refl _, Wk.refl (SubStore.refl _) _, rfl, ?_⟩
  refine IsB.step (rows := encB l ++ encB s) (kK.updK hn) hn (a := .ptr id 0 0) (idn := id3) ?_ (.inr rfl) n3.symm hKid3 ?_ (by simp [encB])
  · rw [upd_same]; simp [bRow, hlb, hsb]
  · rw [upd_ne n3.symm]; exact a3
theorem bstr_c {T : TypeId} {K σ : Store} {id : Nat} {l : List UInt8} (h : IsB T 5 K σ id l) (h0 : l = [] → ∃ a, σ id = some (bRow T a .nils)) : Contract Tryd.prog 35 [.ptr id 0 0] σ fun r σ' => r = .str l ∧ σ' = K :=
  bstring_c (ρ := Tryd.lays169_ren) Tryd.lays169 Tryd.Builder_Extra_169 (by kernel_rfl) h h0
end Go.Vc
namespace Go.Vc
open Go.Proofs
theorem T.cell {P : Program} {S : Nat → V} {σx : Store} {sl id e : Nat} {old new : V} {xv : VX} {Kt : St → Prop} (h : S sl = .ptr id 0 0) (h2 : σx id = some ⟨e, 1, [old]⟩) (h3 : old.cells.length = 1) (h4 : xv.ev S = new)
    (h5 : new.cells.length = 1) (h6 : new.stays = true) (hk : Kt ⟨S, upd σx id ⟨e, 1, [new]⟩⟩) : T P ⟨none, .store 1 (.t sl) xv, none⟩ ⟨S, σx⟩ Kt := by
  have hs : setRowV old 0 1 new = some new := by simp [setRowV, h5, h6, h3]
  refine T.store (σ' := upd σx id ⟨e, 1, [new]⟩) ?_ hk
  show storeS σx 1 (S sl) (xv.ev S) = _
  rw [h, h4]
  simp only [storeS,h2,List.getElem?_cons_zero,hs,List.set_cons_zero]
theorem Beside.delO {σJ σ σJ' σ' : Store} (h : Beside σJ σ σJ' σ') {e : Option Nat} (he : ∀ i, e = some i → ∃ o, σJ' i = some o) : Beside σJ σ (Vc.delO σJ' e) (Vc.delO σ' e) := by
  cases e with
  | none => exact h
  | some e =>
    refine ⟨del_sub h.1, fun i o h1 h2 => ?_⟩
    obtain ⟨h3, h4⟩ := h.2 i o h1 h2
    have : i ≠ e := fun e' => by subst e'; obtain ⟨o', ho'⟩ := he i rfl; rw [h4] at ho'; cases ho'
    simp only [Vc.delO,del_ne this]
    exact ⟨h3, h4⟩
end Go.Vc
namespace Go.Vc
def q2 (b0 b1 : Nat) : Prop := (194 ≤ b0 ∧ b0 ≤ 223) ∧ (128 ≤ b1 ∧ b1 ≤ 191)
def q3 (b0 b1 b2 : Nat) : Prop := (128 ≤ b1 ∧ b1 ≤ 191) ∧ (128 ≤ b2 ∧ b2 ≤ 191) ∧ (224 ≤ b0 ∧ b0 ≤ 239) ∧ (b0 = 224 → 160 ≤ b1) ∧ (b0 = 237 → b1 ≤ 159)
def q4 (b0 b1 b2 b3 : Nat) : Prop := (128 ≤ b1 ∧ b1 ≤ 191) ∧ (128 ≤ b2 ∧ b2 ≤ 191) ∧ (128 ≤ b3 ∧ b3 ≤ 191) ∧ (240 ≤ b0 ∧ b0 ≤ 244) ∧ (b0 = 240 → 144 ≤ b1) ∧ (b0 = 244 → b1 ≤ 143)
end Go.Vc
namespace Go.Vc
variable {P : Program} {n : Nat} {st : St} {Q : St → Prop} {k : List It}
def TC (P : Program) (i : VIns) (x : St) (K : St → Prop) : Prop := T P i x K ∨ (wantV x.s i.g = some true ∧ match i.op with
  | .call fx xs => ∃ f caps Post, fx.ev x.s = .fn f caps ∧ Contract P f (xs.map (·.ev x.s) ++ caps) x.σ Post ∧ ∀ r σ', Post r σ' → K ⟨putO x.s i.dst r, σ'⟩
  | _ => False)
theorem TC.mono {i : VIns} {x : St} {K K' : St → Prop} (hk : ∀ x, K x → K' x) (h : TC P i x K) : TC P i x K' := by
  rcases h with h | ⟨h1, h2⟩
  · exact .inl (h.mono hk)
  · refine .inr ⟨h1, ?_⟩
    split at h2
    · obtain ⟨f, caps, Post, g1, g2, g3⟩ := h2
      exact ⟨f, caps, Post, g1, g2, fun r σ' hp => hk _ (g3 r σ' hp)⟩
    · exact h2.elim
end Go.Vc
namespace Go.Vc
open Go.RowKit
variable {P : Program} {n : Nat} {st : St} {Q : St → Prop} {k : List It} {μ : Mu} {w : World}
theorem cop_inv {o : Op} {tbl : List (TypeId × FuncId)} {xs : List VX} (h : cop P n o = .more (.inv tbl) xs) : ∃ r name args argTypes, o = .call { callee := .invoke r name, args := args, argTypes := argTypes } ∧
    tbl = invTbl P name ∧ xs = cx n r :: args.toList.map (cx n) := by
  cases o
  case call c =>
    obtain ⟨callee, args, argTypes⟩ := c
    cases callee
    case value => simp [cop] at h
    case invoke r name =>
      simp only [cop, VOp.more.injEq, MOp.inv.injEq] at h
      exact ⟨r, name, args, argTypes, rfl, h.1.symm, h.2.symm⟩
    case builtin b => cases b <;> (simp only [cop, nilB] at h; (repeat' split at h) <;> cases h)
  case unOp op t x => cases op <;> simp only [cop, nilB] at h <;> cases h
  case makeFunc f a b => cases f <;> simp only [cop, nilB] at h <;> (repeat' split at h) <;> cases h
  all_goals (simp only [cop, nilB] at h; (repeat' split at h) <;> cases h)
theorem invTbl_get {name : String} {t : TypeId} {f : FuncId} (h : (invTbl P name).lookup t = some f) : invOf P name t = some f ∧ t < P.types.size := by
  unfold invTbl at h
  have key : ∀ l : List Nat, (l.filterMap fun t => (invOf P name t).map fun f => (t, f)).lookup t = some f → invOf P name t = some f ∧ t ∈ l := by
    intro l
    induction l with
    | nil => intro h; simp at h
    | cons a l ih =>
      intro h
      rw [List.filterMap_cons] at h
      cases ha : invOf P name a with
      | none =>
        rw [ha] at h
        simp only [Option.map_none] at h
        obtain ⟨h1, h2⟩ := ih h
        exact ⟨h1, List.mem_cons_of_mem _ h2⟩
      | some g =>
        rw [ha] at h
        simp only [Option.map_some, List.lookup_cons] at h
        by_cases e : t = a
        · subst e
          simp at h
          subst h
          exact ⟨ha, by simp⟩
        · have : (t == a) = false := by simpa using e
          rw [this] at h
          obtain ⟨h1, h2⟩ := ih h
          exact ⟨h1, List.mem_cons_of_mem _ h2⟩
  obtain ⟨h1, h2⟩ := key _ h
  exact ⟨h1, by simpa using h2⟩
theorem run_method {name : String} {t : TypeId} {f : FuncId} (h : invOf P name t = some f) (fuel : Nat) (v : Value) : (method (fuel + 1) t v name).run P w = .ok (f, v) w := by
  unfold invOf at h
  cases hi : P.info? t with
  | none => rw [hi] at h; cases h
  | some i =>
    rw [hi] at h
    simp only at h
    cases hm : i.methods.find? (·.name == name) with
    | none => rw [hm] at h; cases h
    | some m =>
      rw [hm] at h
      simp only at h
      split at h
      · rename_i hp
        have hp' : m.path.toList = [] := by simpa using hp
        cases hf : m.func with
        | none => rw [hf] at h; simp at h
        | some fp =>
          obtain ⟨f0, pr⟩ := fp
          rw [hf] at h
          cases hu : P.underlying t with
          | none => rw [hu] at h; cases pr <;> simp at h
          | some d =>
            rw [hu] at h
            cases pr
            · cases d
              case pointer e => simp at h
              all_goals
                simp only [Option.some.injEq] at h
                subst h
                simp [method, typeInfo, hi, hm, follow, hp', hf, receiverAt, run_underlying hu, Place.get]
            · cases d
              case pointer e =>
                simp only [Option.some.injEq] at h
                subst h
                simp [method, typeInfo, hi, hm, follow, hp', hf, receiverAt, run_underlying hu, Place.get]
              all_goals simp at h
      · cases h
theorem Runs.inv {i : VIns} {l : List VIns} {tbl : List (TypeId × FuncId)} {rx : VX} {xs : List VX} (hw : wantV st.s i.g = some true) (ho : i.op = .more (.inv tbl) (rx :: xs)) {t : TypeId} {v : V} (hr : rx.ev st.s = .iface t v)
    {f : FuncId} (hf : tbl.lookup t = some f) {Post : V → Store → Prop} (hc : Contract P f (v :: xs.map (·.ev st.s)) st.σ Post)
    (h : ∀ r σ', Post r σ' → Runs P n (.ops l :: k) ⟨putO st.s i.dst r, σ'⟩ Q) : Runs P n (.ops (i :: l) :: k) st Q := by
  refine Runs.ins (by rw [ho]; simp) hw fun F hn μ a w o all hi hs next Q' hnext => ?_
  subst hn
  obtain ⟨hop, hd⟩ := cins_op hi
  rw [ho] at hop
  obtain ⟨r0, name, args, argTypes, g1, rfl, g2⟩ := cop_inv hop
  simp only [List.cons.injEq] at g2
  obtain ⟨rfl, rfl⟩ := g2
  obtain ⟨q1, q2⟩ := invTbl_get hf
  have hfr := rep_cx hs r0
  rw [hr] at hfr
  simp only [Rep] at hfr
  obtain ⟨y, hy, hry⟩ := hfr
  have hargs : RepAll μ (Owned μ st.σ) w (v :: (args.toList.map (cx F.n)).map (·.ev st.s)) (y :: args.toList.map a.eval) := by
    simp only [RepAll]; exact ⟨y, _, rfl, hry, rep_cxs hs args.toList⟩
  have hrun : (execOp a.eval o).run P w = .ok (.enter f ((y :: args.toList.map a.eval).toArray)) w := by
    unfold execOp
    rw [g1]
    have hpos : 0 < P.types.size := Nat.lt_of_le_of_lt (Nat.zero_le _) q2
    obtain ⟨fu, hfu⟩ : ∃ fu, P.types.size + Made.depth = fu + 1 := ⟨P.types.size + Made.depth - 1, by omega⟩
    have hprog : (program : Sem Program).run P w = .ok P w := rfl
    have harr : (#[Value.iface t y] ++ args.map a.eval).extract 1 (#[Value.iface t y] ++ args.map a.eval).size = args.map a.eval := by
      apply Array.ext'
      simp [List.take_of_length_le]
    have hget : (#[Value.iface t y] ++ args.map a.eval)[0]? = some (.iface t y) := by
      rw [Array.getElem?_append_left (by simp)]; rfl
    simp only [resolve, Sem.run_bind, Sem.run_pure, Result.andThen_ok, invoke, hy, hget, harr, callMethod, hprog, hfu, run_method q1]
    have hen := run_callFunc (w := w) hc.1 (#[y] ++ args.map a.eval)
    rw [hen]
    congr 2
    apply Array.ext'
    simp
  unfold Oper.wp
  rw [hrun]
  simp only [Oper.upon]
  have hsat : Sat w (Owned μ st.σ) μ st.σ w := hs.sat.here
  refine (hc.2 μ w _ hsat hargs).mono ?_
  rintro e w' ⟨r, σ', μ', val, rfl, hp, hle, hs', hr'⟩
  obtain ⟨hfin, hkeep⟩ := hs.sat.compose hs'
  refine hnext _ _ _ ⟨μ', ?_⟩ (h r σ' hp)
  rw [← hd]
  exact hs.step hfin hle hkeep hs'.size hr'
end Go.Vc
namespace Go.Vc
open Go.RowKit
variable {P : Program} {n : Nat} {st : St} {Q : St → Prop} {k : List It} {μ : Mu} {w : World}
def keyIs (c : IntKind) (m : Int) : Value → Bool
  | .int c' m' => decide (c' = c ∧ m' = m)
  | _ => false
theorem keyIs_int {c : IntKind} {m m' : Int} : keyIs c m (.int c m') = decide (m' = m) := by simp [keyIs]
def mapGet (c : IntKind) (m : Int) : List MapEntry → List V → Option V
  | e :: es, v :: vs => if keyIs c m e.key then some v else mapGet c m es vs
  | _, _ => none
structure MapRel (c : IntKind) (es : List MapEntry) (env : List V) (f : Int → Option V) : Prop where
  len : es.length = env.length
  keys : ∀ e ∈ es, ∃ m, e.key = .int c m
  get : ∀ m, mapGet c m es env = f m
  apart : es.Pairwise fun a b => a.key ≠ b.key
def MapIs (c : IntKind) (σ : Store) (id : Nat) (f : Int → Option V) : Prop :=
  ∃ (es : Array MapEntry) (clock : Nat) (env : List V), σ id = some (gh (.map es clock) env) ∧ MapRel c es.toList env f
theorem MapIs.sub {c : IntKind} {σ σ' : Store} {id : Nat} {f : Int → Option V} (h : MapIs c σ id f) (hs : SubStore σ σ') : MapIs c σ' id f := by
  obtain ⟨es, clock, env, h1, h2⟩ := h
  exact ⟨es, clock, env, hs _ _ h1, h2⟩
theorem mapGet_none {c : IntKind} {m : Int} : ∀ {es : List MapEntry} {env : List V}, (∀ e ∈ es, e.key ≠ .int c m) → (∀ e ∈ es, ∃ m, e.key = .int c m) → mapGet c m es env = none
  | [], _, _, _ => by simp [mapGet]
  | e :: es, [], _, _ => by simp [mapGet]
  | e :: es, v :: vs, h, hk => by
    obtain ⟨m', hm'⟩ := hk e (by simp)
    have h1 := h e (by simp)
    rw [hm'] at h1
    have : m' ≠ m := fun e => h1 (by rw [e])
    simp only [mapGet, hm', keyIs_int, this, decide_false, Bool.false_eq_true, if_false]
    exact mapGet_none (fun e he => h e (by simp [he])) (fun e he => hk e (by simp [he]))
theorem find_get (c : IntKind) (kk : IntKind) (m : Int) : ∀ (es : List MapEntry) (env : List V) (i : Nat), es.length = env.length → (∀ e ∈ es, ∃ m, e.key = .int c m) →
    (mapGet c m es env = none ∧ Instr.findNow (.int kk) (.int c m) es i = some none ∧ ∀ e ∈ es, e.key ≠ .int c m) ∨
    (∃ j e v, es[j]? = some e ∧ env[j]? = some v ∧ e.key = .int c m ∧ mapGet c m es env = some v ∧ Instr.findNow (.int kk) (.int c m) es i = some (some (i + j, e.val)))
  | [], env, i, _, _ => .inl ⟨by simp [mapGet], by simp [Instr.findNow], by simp⟩
  | e :: es, [], i, hl, _ => by simp at hl
  | e :: es, v :: vs, i, hl, hk => by
    obtain ⟨m', hm'⟩ := hk e (by simp)
    by_cases hm : m' = m
    · subst hm
      refine .inr ⟨0, e, v, rfl, rfl, hm', by simp [mapGet, hm', keyIs_int], ?_⟩
      simp [Instr.findNow, Instr.sameNow, hm']
    · have hmm : ¬ m = m' := fun e => hm e.symm
      have hg : mapGet c m (e :: es) (v :: vs) = mapGet c m es vs := by simp [mapGet, hm', keyIs_int, hm]
      have hf : Instr.findNow (.int kk) (.int c m) (e :: es) i = Instr.findNow (.int kk) (.int c m) es (i + 1) := by
        have hb : (m == m') = false := by simpa using hmm
        simp [Instr.findNow, Instr.sameNow, hm', hb]
      rcases find_get c kk m es vs (i + 1) (by simpa using hl) (fun x hx => hk x (by simp [hx])) with ⟨h1, h2, h3⟩ | ⟨j, e', v', h1, h2, h3, h4, h5⟩
      · refine .inl ⟨by rw [hg, h1], by rw [hf, h2], fun x hx => ?_⟩
        rcases List.mem_cons.1 hx with rfl | hx
        · rw [hm']; intro e; cases e; exact hm rfl
        · exact h3 x hx
      · refine .inr ⟨j + 1, e', v', by simpa using h1, by simpa using h2, h3, by rw [hg, h4], ?_⟩
        rw [hf, h5, show i + 1 + j = i + (j + 1) by omega]
theorem mapGet_set {c : IntKind} {m : Int} {v : V} {e' : MapEntry} (he' : e'.key = .int c m) (m' : Int) : ∀ (es : List MapEntry) (env : List V) (j : Nat) (e : MapEntry), es.length = env.length → (∀ e ∈ es, ∃ m, e.key = .int c m) →
    es.Pairwise (fun a b => a.key ≠ b.key) → es[j]? = some e → e.key = .int c m → mapGet c m' (es.set j e') (env.set j v) = if m' = m then some v else mapGet c m' es env
  | [], _, j, e, _, _, _, h, _ => by simp at h
  | x :: es, [], j, e, hl, _, _, _, _ => by simp at hl
  | x :: es, u :: us, 0, e, hl, hk, hp, h, he => by
    simp at h; subst h
    simp only [List.set_cons_zero, mapGet, he', he, keyIs_int]
    by_cases hm : m' = m
    · subst hm; simp
    · have : ¬ m = m' := fun e => hm e.symm
      simp [hm, this]
  | x :: es, u :: us, j + 1, e, hl, hk, hp, h, he => by
    obtain ⟨mx, hmx⟩ := hk x (by simp)
    have hpx := (List.pairwise_cons.1 hp)
    have hne : mx ≠ m := by
      rintro rfl
      exact hpx.1 e (List.mem_of_getElem? (by simpa using h)) (by rw [hmx, he])
    have ih := mapGet_set he' m' (v := v) es us j e (by simpa using hl) (fun y hy => hk y (by simp [hy])) hpx.2 (by simpa using h) he
    simp only [List.set_cons_succ, mapGet, hmx, keyIs_int]
    by_cases hm : mx = m'
    · have : ¬ m' = m := fun e => hne (hm.trans e)
      simp [hm, this]
    · simp only [hm, decide_false, Bool.false_eq_true, if_false]; exact ih
theorem mapGet_push {c : IntKind} {m : Int} {v : V} {e' : MapEntry} (he' : e'.key = .int c m) (m' : Int) : ∀ (es : List MapEntry) (env : List V), es.length = env.length → (∀ e ∈ es, ∃ m, e.key = .int c m) →
    (∀ e ∈ es, e.key ≠ .int c m) → mapGet c m' (es ++ [e']) (env ++ [v]) = if m' = m then some v else mapGet c m' es env
  | [], [], _, _, _ => by
    simp only [List.nil_append, mapGet, he', keyIs_int]
    by_cases hm : m' = m
    · subst hm; simp
    · have : ¬ m = m' := fun e => hm e.symm
      simp [hm, this]
  | [], _ :: _, hl, _, _ => by simp at hl
  | x :: es, [], hl, _, _ => by simp at hl
  | x :: es, u :: us, hl, hk, hn => by
    obtain ⟨mx, hmx⟩ := hk x (by simp)
    have hne : mx ≠ m := by
      rintro rfl
      exact hn x (by simp) hmx
    have ih := mapGet_push he' m' (v := v) es us (by simpa using hl) (fun y hy => hk y (by simp [hy])) (fun y hy => hn y (by simp [hy]))
    simp only [List.cons_append, mapGet, hmx, keyIs_int]
    by_cases hm : mx = m'
    · have : ¬ m' = m := fun e => hne (hm.trans e)
      simp [hm, this]
    · simp only [hm, decide_false, Bool.false_eq_true, if_false]; exact ih
theorem mapGet_erase {c : IntKind} {m : Int} (m' : Int) : ∀ (es : List MapEntry) (env : List V) (j : Nat) (e : MapEntry), es.length = env.length → (∀ e ∈ es, ∃ m, e.key = .int c m) →
    es.Pairwise (fun a b => a.key ≠ b.key) → es[j]? = some e → e.key = .int c m → mapGet c m' (es.eraseIdx j) (env.eraseIdx j) = if m' = m then none else mapGet c m' es env
  | [], _, j, e, _, _, _, h, _ => by simp at h
  | x :: es, [], j, e, hl, _, _, _, _ => by simp at hl
  | x :: es, u :: us, 0, e, hl, hk, hp, h, he => by
    simp at h; subst h
    have hpx := (List.pairwise_cons.1 hp)
    simp only [List.eraseIdx_cons_zero, mapGet, he, keyIs_int]
    by_cases hm : m' = m
    · subst hm
      rw [mapGet_none (fun y hy e => hpx.1 y hy (by rw [he, e])) (fun y hy => hk y (by simp [hy]))]
      simp
    · have : ¬ m = m' := fun e => hm e.symm
      simp [hm, this]
  | x :: es, u :: us, j + 1, e, hl, hk, hp, h, he => by
    obtain ⟨mx, hmx⟩ := hk x (by simp)
    have hpx := (List.pairwise_cons.1 hp)
    have hne : mx ≠ m := by
      rintro rfl
      exact hpx.1 e (List.mem_of_getElem? (by simpa using h)) (by rw [hmx, he])
    have ih := mapGet_erase m' es us j e (by simpa using hl) (fun y hy => hk y (by simp [hy])) hpx.2 (by simpa using h) he
    simp only [List.eraseIdx_cons_succ, mapGet, hmx, keyIs_int]
    by_cases hm : mx = m'
    · have : ¬ m' = m := fun e => hne (hm.trans e)
      simp [hm, this]
    · simp only [hm, decide_false, Bool.false_eq_true, if_false]; exact ih
theorem MapRel.nil (c : IntKind) : MapRel c [] [] fun _ => none := ⟨rfl, by simp, fun _ => rfl, .nil⟩
theorem MapRel.set {c : IntKind} {es : List MapEntry} {env : List V} {f : Int → Option V} (h : MapRel c es env f) {m : Int} {v : V} {j : Nat} {e e' : MapEntry} (hj : es[j]? = some e) (he : e.key = .int c m) (he' : e'.key = .int c m) :
    MapRel c (es.set j e') (env.set j v) fun m' => if m' = m then some v else f m' where
  len := by simp [h.len]
  keys := fun x hx => by
    rcases List.mem_or_eq_of_mem_set hx with hx | rfl
    · exact h.keys x hx
    · exact ⟨m, he'⟩
  get := fun m' => by rw [mapGet_set he' m' es env j e h.len h.keys h.apart hj he, h.get m']
  apart := by
    have hmap : (es.set j e').map (·.key) = es.map (·.key) := by
      rw [List.map_set, he', ← he]
      apply List.ext_getElem?
      intro i
      rw [List.getElem?_set]
      split
      · rename_i e1
        subst e1
        split
        · simp [hj]
        · rename_i hge
          rw [List.getElem?_eq_none (by omega)]
      · rfl
    have h1 : (es.map (·.key)).Pairwise (· ≠ ·) := List.pairwise_map.2 h.apart
    rw [← hmap] at h1
    exact List.pairwise_map.1 h1
theorem MapRel.push {c : IntKind} {es : List MapEntry} {env : List V} {f : Int → Option V} (h : MapRel c es env f) {m : Int} {v : V} {e' : MapEntry} (hn : ∀ e ∈ es, e.key ≠ .int c m) (he' : e'.key = .int c m) :
    MapRel c (es ++ [e']) (env ++ [v]) fun m' => if m' = m then some v else f m' where
  len := by simp [h.len]
  keys := fun x hx => by
    rcases List.mem_append.1 hx with hx | hx
    · exact h.keys x hx
    · simp at hx; subst hx; exact ⟨m, he'⟩
  get := fun m' => by rw [mapGet_push he' m' es env h.len h.keys hn, h.get m']
  apart := by
    rw [List.pairwise_append]
    refine ⟨h.apart, by simp, fun a ha b hb => ?_⟩
    simp at hb; subst hb
    rw [he']; exact hn a ha
theorem MapRel.erase {c : IntKind} {es : List MapEntry} {env : List V} {f : Int → Option V} (h : MapRel c es env f) {m : Int} {j : Nat} {e : MapEntry} (hj : es[j]? = some e) (he : e.key = .int c m) :
    MapRel c (es.eraseIdx j) (env.eraseIdx j) fun m' => if m' = m then none else f m' where
  len := by
    have := h.len
    have hlt := (List.getElem?_eq_some_iff.1 hj).1
    rw [List.length_eraseIdx_of_lt hlt, List.length_eraseIdx_of_lt (by omega), this]
  keys := fun x hx => h.keys x (List.mem_of_mem_eraseIdx hx)
  get := fun m' => by rw [mapGet_erase m' es env j e h.len h.keys h.apart hj he, h.get m']
  apart := h.apart.sublist (List.eraseIdx_sublist _ _)
end Go.Vc
namespace Go.Vc
open Go.RowKit
variable {P : Program} {n : Nat} {st : St} {Q : St → Prop} {k : List It} {μ : Mu} {w : World}
theorem mapT_some {t e : TypeId} (h : mapT P t = some e) : ∃ kt kk, P.underlying t = some (.map kt e) ∧ P.underlying kt = some (.int kk) := by
  unfold mapT at h
  split at h
  · rename_i kt et ht
    split at h
    · rename_i kk hk
      simp only [Option.some.injEq] at h
      subst h
      exact ⟨kt, kk, ht, hk⟩
    · cases h
  · cases h
theorem cop_mkMap {o : Op} {xs : List VX} (h : cop P n o = .more .mkMap xs) : ∃ t, o = .makeMap t none ∧ xs = [] := by
  cases o
  case makeMap t r =>
    simp only [cop] at h
    split at h
    · rename_i hc
      simp only [Bool.and_eq_true, Option.isNone_iff_eq_none] at hc
      obtain ⟨rfl, _⟩ := hc
      simp only [VOp.more.injEq, true_and] at h
      exact ⟨t, rfl, h.symm⟩
    · cases h
  case call c =>
    obtain ⟨callee, args, argTypes⟩ := c
    cases callee
    case value => simp [cop] at h
    case invoke r name => simp [cop] at h
    case builtin b => cases b <;> (simp only [cop, nilB] at h; (repeat' split at h) <;> cases h)
  case unOp op t x => cases op <;> simp only [cop, nilB] at h <;> cases h
  case makeFunc f a b => cases f <;> simp only [cop, nilB] at h <;> (repeat' split at h) <;> cases h
  all_goals (simp only [cop, nilB] at h; (repeat' split at h) <;> cases h)
theorem cop_insM {o : Op} {xs : List VX} (h : cop P n o = .more .insM xs) : ∃ t m y x, (o = .insert t m y x ∨ o = .mapUpdate t m y x) ∧ (mapT P t).isSome = true ∧ xs = [cx n m, cx n y, cx n x] := by
  cases o
  case insert t m y x =>
    simp only [cop] at h
    split at h
    · rename_i hc
      simp only [VOp.more.injEq, true_and] at h
      exact ⟨t, m, y, x, .inl rfl, hc, h.symm⟩
    · cases h
  case mapUpdate t m y x =>
    simp only [cop] at h
    split at h
    · rename_i hc
      simp only [VOp.more.injEq, true_and] at h
      exact ⟨t, m, y, x, .inr rfl, hc, h.symm⟩
    · cases h
  case call c =>
    obtain ⟨callee, args, argTypes⟩ := c
    cases callee
    case value => simp [cop] at h
    case invoke r name => simp [cop] at h
    case builtin b => cases b <;> (simp only [cop, nilB] at h; (repeat' split at h) <;> cases h)
  case unOp op t x => cases op <;> simp only [cop, nilB] at h <;> cases h
  case makeFunc f a b => cases f <;> simp only [cop, nilB] at h <;> (repeat' split at h) <;> cases h
  all_goals (simp only [cop, nilB] at h; (repeat' split at h) <;> cases h)
theorem cop_lookM {o : Op} {xs : List VX} {ok : Bool} {zv : V} (h : cop P n o = .more (.lookM ok zv) xs) : ∃ t x y e i z, o = .lookup t x y ok ∧ mapT P t = some e ∧ zeroOf P e = some (i, z) ∧ zv = ofValue z ∧ xs = [cx n x, cx n y] := by
  cases o
  case lookup t x y ok' =>
    simp only [cop] at h
    split at h
    · rename_i e he
      split at h
      · rename_i i z hz
        simp only [VOp.more.injEq, MOp.lookM.injEq] at h
        obtain ⟨⟨rfl, rfl⟩, rfl⟩ := h
        exact ⟨t, x, y, e, i, z, rfl, he, hz, rfl, rfl⟩
      · cases h
    · cases h
  case call c =>
    obtain ⟨callee, args, argTypes⟩ := c
    cases callee
    case value => simp [cop] at h
    case invoke r name => simp [cop] at h
    case builtin b => cases b <;> (simp only [cop, nilB] at h; (repeat' split at h) <;> cases h)
  case unOp op t x => cases op <;> simp only [cop, nilB] at h <;> cases h
  case makeFunc f a b => cases f <;> simp only [cop, nilB] at h <;> (repeat' split at h) <;> cases h
  all_goals (simp only [cop, nilB] at h; (repeat' split at h) <;> cases h)
theorem cop_delM {o : Op} {xs : List VX} (h : cop P n o = .more .delM xs) : ∃ t ts m y args argTypes, o = .call { callee := .builtin .delete, args := args, argTypes := argTypes } ∧ args = #[m, y] ∧ argTypes.toList = t :: ts ∧ (mapT P t).isSome = true ∧ xs = [cx n m, cx n y] := by
  cases o
  case call c =>
    obtain ⟨callee, args, argTypes⟩ := c
    cases callee
    case value => simp [cop] at h
    case invoke r name => simp [cop] at h
    case builtin b =>
      cases b
      case delete =>
        simp only [cop] at h
        split at h
        · rename_i m y t h1 h2
          split at h
          · rename_i hc
            simp only [VOp.more.injEq, true_and] at h
            obtain ⟨ts, hts⟩ : ∃ ts, argTypes.toList = t :: ts := by
              cases hl : argTypes.toList with
              | nil => have : argTypes = #[] := by apply Array.ext'; simpa using hl
                       subst this; simp at h2
              | cons a ts =>
                refine ⟨ts, ?_⟩
                have : argTypes[0]? = some a := by rw [← Array.getElem?_toList, hl]; rfl
                rw [this] at h2; cases h2; rfl
            exact ⟨t, ts, m, y, args, argTypes, rfl, by apply Array.ext'; simpa using h1, hts, hc, h.symm⟩
          · cases h
        · cases h
      all_goals (simp only [cop, nilB] at h; (repeat' split at h) <;> cases h)
  case unOp op t x => cases op <;> simp only [cop, nilB] at h <;> cases h
  case makeFunc f a b => cases f <;> simp only [cop, nilB] at h <;> (repeat' split at h) <;> cases h
  all_goals (simp only [cop, nilB] at h; (repeat' split at h) <;> cases h)
theorem run_getO {b : Nat} {es : Array MapEntry} {c : Nat} (h : w.heap[b]? = some (.map es c)) : (getObj b).run P w = .ok (.map es c) w := by simp [getObj, Sem.run, h]
theorem run_setO {b : Nat} {es : Array MapEntry} {c : Nat} (o' : Obj) (h : w.heap[b]? = some (.map es c)) : (setObj b o').run P w = .ok () (w.putObj b o') := by simp [setObj, Sem.run, h, World.putObj]
theorem run_checkI {em : Bool} {t : TypeId} {kk c : IntKind} {m : Int} (h : P.underlying t = some (.int kk)) : (Instr.checkKey em 10000 t (.int c m)).run P w = .ok () w := by
  show (Instr.checkKey em (9999 + 1) t (.int c m)).run P w = .ok () w
  rw [Instr.checkKey]
  simp [run_underlying h]
theorem run_findI {t : TypeId} {kk c : IntKind} {m : Int} (h : P.underlying t = some (.int kk)) {es : List MapEntry} {r : Option (Nat × Value)} (hf : Instr.findNow (.int kk) (.int c m) es 0 = some r) :
    (Instr.findKey t (.int c m) es).run P w = .ok r w := by
  simp [Instr.findKey, run_underlying h, hf]
theorem run_keyStays {c : IntKind} {m : Int} : (Instr.keyThatStays (.int c m) (.int c m)).run P w = .ok (.int c m) w := by
  have : Instr.sameBits 10000 (.int c m) (.int c m) = true := by
    show Instr.sameBits (9999 + 1) (.int c m) (.int c m) = true
    simp [Instr.sameBits]
  simp [Instr.keyThatStays, this]
theorem RepAll.set {ow : Nat → Prop} : ∀ {vs : List V} {l : List Value} {v : V} {x : Value} (j : Nat), RepAll μ ow w vs l → Rep μ ow w v x → RepAll μ ow w (vs.set j v) (l.set j x)
  | [], l, v, x, j, h, hv => by simp only [RepAll] at h; subst h; simp [RepAll]
  | u :: us, l, v, x, 0, h, hv => by
    simp only [RepAll] at h; obtain ⟨y, ys, rfl, h1, h2⟩ := h
    simp only [List.set_cons_zero, RepAll]; exact ⟨x, ys, rfl, hv, h2⟩
  | u :: us, l, v, x, j + 1, h, hv => by
    simp only [RepAll] at h; obtain ⟨y, ys, rfl, h1, h2⟩ := h
    simp only [List.set_cons_succ, RepAll]; exact ⟨y, _, rfl, h1, RepAll.set j h2 hv⟩
theorem RepAll.erase {ow : Nat → Prop} : ∀ {vs : List V} {l : List Value} (j : Nat), RepAll μ ow w vs l → RepAll μ ow w (vs.eraseIdx j) (l.eraseIdx j)
  | [], l, j, h => by simp only [RepAll] at h; subst h; simp [RepAll]
  | u :: us, l, 0, h => by
    simp only [RepAll] at h; obtain ⟨y, ys, rfl, h1, h2⟩ := h
    simpa using h2
  | u :: us, l, j + 1, h => by
    simp only [RepAll] at h; obtain ⟨y, ys, rfl, h1, h2⟩ := h
    simp only [List.eraseIdx_cons_succ, RepAll]; exact ⟨y, _, rfl, h1, RepAll.erase j h2⟩
theorem Runs.mkMap {i : VIns} {l : List VIns} {xs : List VX} (hw : wantV st.s i.g = some true) (ho : i.op = .more .mkMap xs)
    (h : ∀ id, st.σ id = none → Runs P n (.ops l :: k) ⟨putO st.s i.dst (.mp id), upd st.σ id (gh (.map #[] 0) [])⟩ Q) : Runs P n (.ops (i :: l) :: k) st Q := by
  refine Runs.ins (by rw [ho]; simp) hw fun F hn μ a w o all hi hs next Q' hnext => ?_
  subst hn
  obtain ⟨hop, hd⟩ := cins_op hi
  rw [ho] at hop
  obtain ⟨t, h1, _⟩ := cop_mkMap hop
  obtain ⟨id, hid, μ', g1, g2, g3, g4⟩ := hs.sat.newG (.map #[] 0) [] (by simp [RepAll, tmpsOf])
  have hrun : (execOp a.eval o).run P w = .ok (.value (.map (some w.heap.size))) (w.alloc (.map #[] 0)) := by
    unfold execOp
    rw [h1]
    simp [Instr.makeMap]
    all_goals rfl
  unfold Oper.wp
  rw [hrun]
  refine hnext _ _ _ ⟨μ', ?_⟩ (h id hid)
  rw [← hd]
  exact hs.step g3 g2 g4 (by simp) (by simp [Rep, g1])
theorem Runs.lookM {i : VIns} {l : List VIns} {xm xk : VX} {ok : Bool} {zv : V} (hw : wantV st.s i.g = some true) (ho : i.op = .more (.lookM ok zv) [xm, xk]) {id : Nat} {c : IntKind} {f : Int → Option V} {m : Int}
    (hm : xm.ev st.s = .mp id) (hmap : MapIs c st.σ id f) (hk : xk.ev st.s = .int c m)
    (h : Runs P n (.ops l :: k) ⟨putO st.s i.dst (if ok then .tup [(f m).getD zv, .bool (f m).isSome] else (f m).getD zv), st.σ⟩ Q) : Runs P n (.ops (i :: l) :: k) st Q := by
  refine Runs.ins (by rw [ho]; simp) hw fun F hn μ a w o all hi hs next Q' hnext => ?_
  subst hn
  obtain ⟨hop, hd⟩ := cins_op hi
  rw [ho] at hop
  obtain ⟨t, x, y, e, ti, z, g1, g2, g3, rfl, g4⟩ := cop_lookM hop
  simp only [List.cons.injEq, and_true] at g4
  obtain ⟨rfl, rfl⟩ := g4
  obtain ⟨kt, kk, u1, u2⟩ := mapT_some g2
  obtain ⟨es, clock, env, hσ, hrel⟩ := hmap
  have hr := rep_cx hs x
  have hrk := rep_cx hs y
  rw [hm] at hr
  rw [hk] at hrk
  simp only [Rep] at hr hrk
  split at hr
  · rename_i b cap hid
    obtain ⟨hob, henv⟩ := hs.sat.getG hσ hid
    simp only [tmpsOf] at henv
    rcases find_get c kk m es.toList env 0 hrel.len hrel.keys with ⟨q1, q2, q3⟩ | ⟨j, en, v, q1, q2, q3, q4, q5⟩
    · rw [hrel.get m] at q1
      rw [q1] at h
      have hrun : (Instr.lookup t (a.eval x) (a.eval y) ok).run P w = .ok (if ok then .tuple #[z, .bool false] else z) w := by
        simp [Instr.lookup, run_underlying u1, hr, hrk, run_getO hob, run_checkI u2, run_findI u2 q2, run_zeroValue g3]
      have hx : (execOp a.eval o).run P w = .ok (.value (if ok then .tuple #[z, .bool false] else z)) w := by
        unfold execOp
        rw [g1]
        simp [hrun]
      unfold Oper.wp
      rw [hx]
      refine hnext _ _ _ ⟨μ, ?_⟩ h
      rw [← hd]
      have hz : Rep μ (Owned μ st.σ) w (ofValue z) z := Rep_ofValue z
      refine hs.pure ?_
      cases ok
      · simpa using hz
      · simp only [if_true, Option.getD_none, Option.isSome_none, Rep]
        exact ⟨_, rfl, by simp only [RepAll, Rep]; exact ⟨_, _, rfl, hz, _, _, rfl, rfl, rfl⟩⟩
    · rw [hrel.get m] at q4
      rw [q4] at h
      rw [Nat.zero_add] at q5
      have hv : Rep μ (Owned μ st.σ) w v en.val := by
        obtain ⟨x', hx', hrx⟩ := henv.get q2
        rw [List.getElem?_map, q1] at hx'
        simp at hx'
        subst hx'
        exact hrx
      have hrun : (Instr.lookup t (a.eval x) (a.eval y) ok).run P w = .ok (if ok then .tuple #[en.val, .bool true] else en.val) w := by
        simp [Instr.lookup, run_underlying u1, hr, hrk, run_getO hob, run_checkI u2, run_findI u2 q5]
      have hx : (execOp a.eval o).run P w = .ok (.value (if ok then .tuple #[en.val, .bool true] else en.val)) w := by
        unfold execOp
        rw [g1]
        simp [hrun]
      unfold Oper.wp
      rw [hx]
      refine hnext _ _ _ ⟨μ, ?_⟩ h
      rw [← hd]
      refine hs.pure ?_
      cases ok
      · simpa using hv
      · simp only [if_true, Option.getD_some, Option.isSome_some, Rep]
        exact ⟨_, rfl, by simp only [RepAll, Rep]; exact ⟨_, _, rfl, hv, _, _, rfl, rfl, rfl⟩⟩
  · exact hr.elim
end Go.Vc
namespace Go.Vc
open Go.RowKit
variable {P : Program} {n : Nat} {st : St} {Q : St → Prop} {k : List It} {μ : Mu} {w : World}
theorem modify_set {α : Type} {f : α → α} : ∀ (l : List α) (j : Nat) (x : α), l[j]? = some x → l.modify j f = l.set j (f x)
  | [], j, x, h => by simp at h
  | y :: l, 0, x, h => by simp at h; subst h; rfl
  | y :: l, j + 1, x, h => by
    have := modify_set (f := f) l j x (by simpa using h)
    rw [List.modify_succ_cons, List.set_cons_succ, this]
theorem map_erase {α β : Type} {f : α → β} : ∀ (l : List α) (j : Nat), (l.eraseIdx j).map f = (l.map f).eraseIdx j
  | [], j => by simp
  | y :: l, 0 => by simp
  | y :: l, j + 1 => by simp [map_erase l j]
theorem Runs.insM {i : VIns} {l : List VIns} {xm xk xv : VX} (hw : wantV st.s i.g = some true) (ho : i.op = .more .insM [xm, xk, xv]) {id : Nat} {c : IntKind} {f : Int → Option V} {m : Int} {v : V}
    (hm : xm.ev st.s = .mp id) (hmap : MapIs c st.σ id f) (hk : xk.ev st.s = .int c m) (hv : xv.ev st.s = v)
    (h : ∀ ob : Ob, ob.sz = 0 → MapIs c (upd st.σ id ob) id (fun m' => if m' = m then some v else f m') → Runs P n (.ops l :: k) ⟨putO st.s i.dst (.tup []), upd st.σ id ob⟩ Q) : Runs P n (.ops (i :: l) :: k) st Q := by
  refine Runs.ins (by rw [ho]; simp) hw fun F hn μ a w o all hi hs next Q' hnext => ?_
  subst hn
  obtain ⟨hop, hd⟩ := cins_op hi
  rw [ho] at hop
  obtain ⟨t, x, y, z, g1, g2, g4⟩ := cop_insM hop
  simp only [List.cons.injEq, and_true] at g4
  obtain ⟨rfl, rfl, rfl⟩ := g4
  obtain ⟨e, he⟩ := Option.isSome_iff_exists.1 g2
  obtain ⟨kt, kk, u1, u2⟩ := mapT_some he
  obtain ⟨es, clock, env, hσ, hrel⟩ := hmap
  have hr := rep_cx hs x
  have hrk := rep_cx hs y
  have hrv := rep_cx hs z
  rw [hm] at hr
  rw [hk] at hrk
  rw [hv] at hrv
  simp only [Rep] at hr hrk
  split at hr
  · rename_i b cap hid
    obtain ⟨hob, henv⟩ := hs.sat.getG hσ hid
    simp only [tmpsOf] at henv
    have hfin : ∀ (o' : Obj) (env' : List V), (∀ es' clock', o' = .map es' clock' → MapRel c es'.toList env' (fun m' => if m' = m then some v else f m')) → (∃ es' clock', o' = .map es' clock') → RepAll μ (Owned μ st.σ) w env' (tmpsOf o') →
        (Instr.mapUpdate t (a.eval x) (a.eval y) (a.eval z)).run P w = .ok () (w.putObj b o') → o.wp P a w next Q' := by
      intro o' env' hmr hmap' hrep hrun
      have hx : (execOp a.eval o).run P w = .ok .skip (w.putObj b o') := by
        unfold execOp
        rcases g1 with g1 | g1 <;> (rw [g1]; simp [hrun])
      have hset := hs.sat.setG hσ hid o' env' hrep
      obtain ⟨es', clock', rfl⟩ := hmap'
      unfold Oper.wp
      rw [hx]
      refine hnext _ _ _ ⟨μ, ?_⟩ (h (gh (.map es' clock') env') rfl ⟨es', clock', env', upd_same, hmr _ _ rfl⟩)
      rw [← hd]
      exact hs.step hset.1 (MuLe.refl _) hset.2 (by simp) (by simp only [Rep]; exact ⟨[], rfl, by simp [RepAll]⟩)
    rcases find_get c kk m es.toList env 0 hrel.len hrel.keys with ⟨q1, q2, q3⟩ | ⟨j, en, v0, q1, q2, q3, q4, q5⟩
    · refine hfin (.map (es.push { key := .int c m, val := a.eval z, born := clock }) (clock + 1)) (env ++ [v]) (fun es' clock' e => ?_) ⟨_, _, rfl⟩ ?_ ?_
      · cases e
        rw [Array.toList_push]
        exact hrel.push q3 rfl
      · simp only [tmpsOf, Array.toList_push, List.map_append, List.map_cons, List.map_nil]
        exact henv.append (by simp only [RepAll]; exact ⟨_, _, rfl, hrv, rfl⟩)
      · simp [Instr.mapUpdate, run_underlying u1, hr, hrk, run_getO hob, run_checkI u2, run_findI u2 q2, run_setO _ hob]
    · rw [Nat.zero_add] at q5
      refine hfin (.map (es.modify j fun e => { e with key := .int c m, val := a.eval z }) clock) (env.set j v) (fun es' clock' e => ?_) ⟨_, _, rfl⟩ ?_ ?_
      · cases e
        have hl : (es.modify j fun e => { e with key := .int c m, val := a.eval z }).toList = es.toList.set j { en with key := .int c m, val := a.eval z } := by
          rw [Array.toList_modify, modify_set _ _ _ q1]
        rw [hl]
        exact hrel.set q1 q3 rfl
      · have hl : (es.modify j fun e => { e with key := .int c m, val := a.eval z }).toList = es.toList.set j { en with key := .int c m, val := a.eval z } := by
          rw [Array.toList_modify, modify_set _ _ _ q1]
        simp only [tmpsOf, hl, List.map_set]
        exact RepAll.set j henv hrv
      · have hkey : ((es[j]?).map (·.key)).getD (.int c m) = .int c m := by
          rw [← Array.getElem?_toList, q1]; simp [q3]
        simp [Instr.mapUpdate, run_underlying u1, hr, hrk, run_getO hob, run_checkI u2, run_findI u2 q5, run_setO _ hob, hkey, run_keyStays]
  · exact hr.elim
theorem Runs.delM {i : VIns} {l : List VIns} {xm xk : VX} (hw : wantV st.s i.g = some true) (ho : i.op = .more .delM [xm, xk]) {id : Nat} {c : IntKind} {f : Int → Option V} {m : Int}
    (hm : xm.ev st.s = .mp id) (hmap : MapIs c st.σ id f) (hk : xk.ev st.s = .int c m)
    (h : ∀ ob : Ob, ob.sz = 0 → MapIs c (upd st.σ id ob) id (fun m' => if m' = m then none else f m') → Runs P n (.ops l :: k) ⟨putO st.s i.dst (.tup []), upd st.σ id ob⟩ Q) : Runs P n (.ops (i :: l) :: k) st Q := by
  refine Runs.ins (by rw [ho]; simp) hw fun F hn μ a w o all hi hs next Q' hnext => ?_
  subst hn
  obtain ⟨hop, hd⟩ := cins_op hi
  rw [ho] at hop
  obtain ⟨t, ts, x, y, args, argTypes, g1, rfl, g3, g2, g4⟩ := cop_delM hop
  simp only [List.cons.injEq, and_true] at g4
  obtain ⟨rfl, rfl⟩ := g4
  obtain ⟨e, he⟩ := Option.isSome_iff_exists.1 g2
  obtain ⟨kt, kk, u1, u2⟩ := mapT_some he
  obtain ⟨es, clock, env, hσ, hrel⟩ := hmap
  have hr := rep_cx hs x
  have hrk := rep_cx hs y
  rw [hm] at hr
  rw [hk] at hrk
  simp only [Rep] at hr hrk
  have hat : argTypes[0]? = some t := by rw [← Array.getElem?_toList, g3]; rfl
  split at hr
  · rename_i b cap hid
    obtain ⟨hob, henv⟩ := hs.sat.getG hσ hid
    simp only [tmpsOf] at henv
    have hfin : ∀ (o' : Obj) (env' : List V), (∀ es' clock', o' = .map es' clock' → MapRel c es'.toList env' (fun m' => if m' = m then none else f m')) → (∃ es' clock', o' = .map es' clock') → RepAll μ (Owned μ st.σ) w env' (tmpsOf o') →
        (Builtin.delete_ argTypes o.type #[a.eval x, a.eval y]).run P w = .ok (.tuple #[]) (w.putObj b o') → o.wp P a w next Q' := by
      intro o' env' hmr hmap' hrep hrun
      have hx : (execOp a.eval o).run P w = .ok (.value (.tuple #[])) (w.putObj b o') := by
        unfold execOp
        rw [g1]
        simp [resolve, invoke, Go.builtin, hrun]
      have hset := hs.sat.setG hσ hid o' env' hrep
      obtain ⟨es', clock', rfl⟩ := hmap'
      unfold Oper.wp
      rw [hx]
      refine hnext _ _ _ ⟨μ, ?_⟩ (h (gh (.map es' clock') env') rfl ⟨es', clock', env', upd_same, hmr _ _ rfl⟩)
      rw [← hd]
      exact hs.step hset.1 (MuLe.refl _) hset.2 (by simp) (by simp only [Rep]; exact ⟨[], rfl, by simp [RepAll]⟩)
    rcases find_get c kk m es.toList env 0 hrel.len hrel.keys with ⟨q1, q2, q3⟩ | ⟨j, en, v0, q1, q2, q3, q4, q5⟩
    · refine hfin (.map es clock) env (fun es' clock' e => ?_) ⟨_, _, rfl⟩ henv ?_
      · cases e
        refine ⟨hrel.len, hrel.keys, fun m' => ?_, hrel.apart⟩
        rw [hrel.get m']
        split
        · rename_i e; subst e; rw [← hrel.get m', q1]
        · rfl
      · simp [Builtin.delete_, hat, run_underlying u1, hr, hrk, run_getO hob, run_checkI u2, run_findI u2 q2, run_setO _ hob]
    · rw [Nat.zero_add] at q5
      have hl : (es.eraseIdxIfInBounds j).toList = es.toList.eraseIdx j := by simp
      refine hfin (.map (es.eraseIdxIfInBounds j) clock) (env.eraseIdx j) (fun es' clock' e => ?_) ⟨_, _, rfl⟩ ?_ ?_
      · cases e
        rw [hl]
        exact hrel.erase q1 q3
      · simp only [tmpsOf, hl]
        rw [map_erase]
        exact RepAll.erase j henv
      · simp [Builtin.delete_, hat, run_underlying u1, hr, hrk, run_getO hob, run_checkI u2, run_findI u2 q5, run_setO _ hob]
  · exact hr.elim
end Go.Vc
namespace Go.Vc
open Go.Proofs
variable {n : Nat} {k : List It} {Q : St → Prop}
def plainS : List Int := [0, 0, 0, 0, 0, 2, 2, 0, 0, 0, 0, 0]
theorem plain_c : PFun Tryd.prog 18 [] (.agg [.int .i64 0, .int .i64 0, .int .i64 0, .int .i64 0, .int .i64 0, .int .i64 2, .int .i64 2, .int .i64 0, .int .i64 0, .int .i64 0, .int .i64 0, .int .i64 0]) := fun σ => by
  refine Contract.of_runs Tryd.func18 e18 k18 (by simp [c18]) ?_
  (refine Runs.of_step Orc.nothing 300 ?_; simp -implicitDefEqProofs only [BB,seval,← decide_not,okind,vpre,vpure,intBin,intPre,strBin,strPre,popTo,argSlots,fldV,fldAV,subCells,idxVV,idxAAV,idxSV,sliceV,sliceSV,boundV,szIs,storeOp,storeS,setRowV,eff,extV,buildV,splice,eqSV,fitsL,eqCells,eqCell,minmaxV,capV,binBV,nilCheckV,bytesV,V.cells,V.stays,Orc.nothing,c18])
  refine effR_new fun id0 σ0 s0 a0 f0 => ?_
  simp -implicitDefEqProofs only [BB,seval,← decide_not,okind,vpre,vpure,intBin,intPre,strBin,strPre,popTo,argSlots,fldV,fldAV,subCells,idxVV,idxAAV,idxSV,sliceV,sliceSV,boundV,szIs,storeOp,storeS,setRowV,eff,extV,buildV,splice,eqSV,fitsL,eqCells,eqCell,minmaxV,capV,binBV,nilCheckV,bytesV,V.cells,V.stays,a0]
  exact .pure (s0.updK f0) rfl
end Go.Vc
namespace Go.Vc
open Go.Proofs
abbrev MX : Int := 1099511627776
end Go.Vc
namespace Go.Vc
open Go.Proofs
def Off (id : Nat) (σ τ : Store) : Prop := ∀ q, q ≠ id → ∀ o, σ q = some o → τ q = some o
theorem Off.refl (id : Nat) (σ : Store) : Off id σ σ := fun _ _ _ h => h
theorem Off.sub {id : Nat} {σ τ τ' : Store} (h : Off id σ τ) (hs : SubStore τ τ') : Off id σ τ' := fun q hq o ho => hs _ _ (h q hq o ho)
theorem Off.upd {id : Nat} {σ τ : Store} {o : Ob} (h : Off id σ τ) : Off id σ (Vc.upd τ id o) := fun q hq o' ho => by rw [upd_ne hq]; exact h q hq o' ho
theorem Off.new {id j : Nat} {σ τ : Store} {o : Ob} (h : Off id σ τ) (hj : σ j = none) : Off id σ (Vc.upd τ j o) := fun q hq o' ho => by
  rw [upd_ne (ne_new ho hj)]; exact h q hq o' ho
theorem Off.to {id : Nat} {σ τ : Store} {X : Ob} (h : Off id σ τ) (hx : τ id = some X) : SubStore (Vc.upd σ id X) τ := fun q o ho => by
  by_cases hq : q = id
  · subst hq; rw [upd_same] at ho; rw [hx]; exact ho
  · rw [upd_ne hq] at ho; exact h q hq o ho
theorem Off.none {id : Nat} {σ τ : Store} (h : Off id σ τ) {X : Ob} (hi : τ id = some X) {q : Nat} (hq : τ q = none) : σ q = none := by
  cases hs : σ q with
  | none => rfl
  | some o =>
    have : q ≠ id := fun e => by rw [e, hi] at hq; cases hq
    rw [h q this o hs] at hq; cases hq
theorem Off.retv {id : Nat} {σ τ : Store} {X : Ob} {v v' : V} (h : Off id σ τ) (hx : τ id = some X) (hv : v = v') : RetV v τ fun r σ' => r = v' ∧ σ' = Vc.upd σ id X :=
  ⟨_, _, h.to hx, Wk.refl (h.to hx) _, hv, rfl⟩
inductive Shp where
  | box (w h : Int)
  | block (s : List Int) (inner : List Shp)
  | text (ns : List Int)
  | float (w h side : Int)
end Go.Vc
namespace Go.Vc
open Go.Proofs
theorem keepA {K J τ τ' : Store} {idA : Option Nat} (hA : ∀ i, idA = some i → K i = none ∧ ∃ o, J i = some o) (s : SubStore (delO τ idA) τ') (q : Nat) (o : Ob) (hq : K q ≠ none) (ho : τ q = some o) : τ' q = some o := by
  refine s _ _ ?_
  cases h : idA with
  | none => exact ho
  | some j =>
    have hj := (hA j h).1
    have : q ≠ j := fun e => hq (by rw [e]; exact hj)
    show del τ j q = some o
    rw [del_ne this]
    exact ho
end Go.Vc
namespace Go.Vc
open Go.Proofs
def styL : List Int → Sty
  | [a, b, c, d, e, f, g, h, i, j, k, l] => ⟨a, b, c, d, e, f, g, h, i, j, k, l⟩
  | _ => Sty.zero
theorem styL_cells {s : List Int} (h : s.length = 12) : s.map vI = (styL s).cells := by
  match s, h with
  | [a, b, c, d, e, f, g, h, i, j, k, l], _ => rfl
def ndS : Shp → Nd
  | .box w h => ⟨3, 1, Sty.zero, 0, 0, [], 0, w, h⟩
  | .block s _ => ⟨1, 1, styL s, 0, 0, [], 0, 0, 0⟩
  | .text ns => ⟨2, 1, Sty.zero, ns.getD 0 0, ns.getD 1 0, ns.drop 2, 0, 0, 0⟩
  | .float w h d => ⟨4, 1, Sty.zero, 0, 0, [], d, w, h⟩
theorem at0 (σ : Store) (x y : V) (l : List V) : idxAV σ 1 (.sl 1 (x :: y :: l)) (.int .i64 0) = some (.rp x) := by simp [idxAV]
end Go.Vc
namespace Go.Vc
open Go.Proofs
mutual
/-- the nodes of a shape; of shapes -/
def toldS : Shp → List Nd
  | .box w h => [ndS (.box w h)]
  | .block s inner => { ndS (.block s inner) with size := 1 + ((toldL inner).length : Int) } :: toldL inner
  | .text ns => [ndS (.text ns)]
  | .float w h d => [ndS (.float w h d)]
def toldL : List Shp → List Nd
  | [] => []
  | x :: l => toldS x ++ toldL l
/-- twelve numbers in each block, two and more in each text -/
def wfS : Shp → Prop
  | .box _ _ => True
  | .block s inner => s.length = 12 ∧ wfL inner
  | .text ns => 2 ≤ ns.length
  | .float _ _ _ => True
def wfL : List Shp → Prop
  | [] => True
  | x :: l => wfS x ∧ wfL l
end
theorem toldL_append (a b : List Shp) : toldL (a ++ b) = toldL a ++ toldL b := by
  induction a with
  | nil => simp [toldL]
  | cons x l ih => simp [toldL, ih]
end Go.Vc
namespace Go.Vc
open Go.Proofs
def lettersB : List UInt8 := [109, 110, 112, 113, 105, 111, 119, 104, 66, 65, 73, 99]
end Go.Vc
namespace Go.Vc
open Go.Proofs
theorem FzL.same {σ : Store} {N : Nat → Prop} : ∀ (vs : List V), noidL vs = true → FzL σ N vs vs
  | [], _ => .nil
  | v :: vs, h => by
    simp only [noidL,Bool.and_eq_true] at h
    exact .cons _ _ _ _ (.same v h.1) (FzL.same vs h.2)
theorem FzL.app {σ : Store} {N : Nat → Prop} : ∀ {a b c d : List V}, FzL σ N a b → FzL σ N c d → FzL σ N (a ++ c) (b ++ d)
  | _, _, _, _, .nil, h => h
  | _, _, _, _, .cons v u vs us h h', h2 => .cons v u _ _ h (FzL.app h' h2)
theorem FzL.one {σ : Store} {N : Nat → Prop} {v u : V} (h : Fz σ N v u) : FzL σ N [v] [u] := .cons _ _ _ _ h .nil
theorem OutV.upd_ne {K σ : Store} {e sz : Nat} {v : V} {rows : List V} (h : OutV K σ e sz v rows) {id : Nat} {o : Ob} (hK : K id ≠ none) : OutV K (upd σ id o) e sz v rows := by
  rcases h with h | ⟨q, h1, h2, h3⟩
  · exact .inl h
  · have : q ≠ id := fun e => hK (by rw [← e]; exact h3)
    exact .inr ⟨q, h1, by rw [Vc.upd_ne this]; exact h2, h3⟩
def ndW (x : Nd) (v : V) : V := .agg [vI x.kind, vI x.size, vI x.st.top, vI x.st.bottom, vI x.st.padTop, vI x.st.padBottom, vI x.st.inset, vI x.st.orphans, vI x.st.widows, vI x.st.head, vI x.st.before, vI x.st.after, vI x.st.inside, vI x.st.clear, vI x.line, vI x.space, v, vI x.side, vI x.w, vI x.h]
structure XInv (K σ : Store) (id5 : Nat) (x : Nd) (v : V) : Prop where
  off : Off id5 K σ
  r5 : σ id5 = some ⟨42, 20, [ndW x v]⟩
  out : OutV K σ 3 1 v (x.words.map vI)
theorem XInv.push {K σ σ1 σ2 : Store} {id5 i2 : Nat} {x : Nd} {v : V} {n : Int} {idA : Option Nat} (inv : XInv K σ id5 x v) (hK : K id5 ≠ none) (s1 : SubStore σ σ1) (hA : ∀ i, idA = some i → K i = none ∧ ∃ o, σ i = some o)
    (s2 : SubStore (delO σ1 idA) σ2) (a2 : σ2 i2 = some ⟨3, 1, x.words.map vI ++ [vI n]⟩) (f2 : σ1 i2 = none) :
    XInv K (upd σ2 id5 ⟨42, 20, [ndW { x with words := x.words ++ [n] } (.own i2 0 (x.words.length + 1))]⟩) id5 { x with words := x.words ++ [n] } (.own i2 0 (x.words.length + 1)) where
  off := Off.upd fun q hq o ho => keepA hA s2 q o (by rw [ho]; simp) (s1 _ _ (inv.off q hq o ho))
  r5 := upd_same
  out := by
    have f : σ i2 = none := s1.none f2
    have hne : i2 ≠ id5 := fun e => by rw [e, inv.r5] at f; cases f
    refine OutV.new (by simp) (by rw [upd_ne hne, a2]; simp) ?_
    exact inv.off.none inv.r5 f
end Go.Vc
namespace Go.Vc
def loK (k : Nat) : Int := if k = 5 ∨ k = 6 then 1 else 0
def hiK (k : Nat) : Int := if k = 8 ∨ k = 9 then 4 else if k = 10 then 1 else if k = 11 then 3 else MX
def okL (s : List Int) : Prop := ∀ k v, s[k]? = some v → loK k ≤ v ∧ v ≤ hiK k
theorem styL_ok {s : List Int} (hl : s.length = 12) (h : okL s) : (styL s).ok = true := by
  match s, hl with
  | [x0, x1, x2, x3, x4, x5, x6, x7, x8, x9, x10, x11], _ =>
    have g0 := h 0 x0 rfl
    have g1 := h 1 x1 rfl
    have g2 := h 2 x2 rfl
    have g3 := h 3 x3 rfl
    have g4 := h 4 x4 rfl
    have g5 := h 5 x5 rfl
    have g6 := h 6 x6 rfl
    have g7 := h 7 x7 rfl
    have g8 := h 8 x8 rfl
    have g9 := h 9 x9 rfl
    have g10 := h 10 x10 rfl
    have g11 := h 11 x11 rfl
    simp [loK, hiK] at g0 g1 g2 g3 g4 g5 g6 g7 g8 g9 g10 g11
    have hMX : MX = 1099511627776 := rfl
    simp [styL, Sty.ok, isFrom, mx]
    omega
theorem float_ok2 (w v d : Int) (hw : isFrom w 1 mx = true) (hv : isFrom v 1 mx = true) (hd : d = 1 ∨ d = 2) : (ndS (.float w v d)).ok = true := by
  rcases hd with rfl | rfl <;> (simp [ndS, Nd.ok, isFrom] at hw hv ⊢; exact ⟨hw, hv⟩)
theorem ok_size {x : Nd} (h : x.kind = 1) (n : Int) : ({ x with size := n } : Nd).ok = x.ok := by simp [Nd.ok, h]
theorem rowsB_told : ∀ (m : Nat) (xs : List Shp) (pre post : List Nd), (toldL xs).length ≤ m → rowsB (pre ++ toldL xs ++ post) pre.length (pre.length + (toldL xs).length) = true := by
  intro m
  induction m with
  | zero =>
    intro xs pre post h
    have : (toldL xs).length = 0 := by omega
    rw [this]
    exact rowsB_nil _ _
  | succ m ih =>
    intro xs pre post h
    cases xs with
    | nil => simp only [toldL,List.length_nil,Nat.add_zero]; exact rowsB_nil _ _
    | cons x xs =>
      obtain ⟨hd, inner, ht, hsz, hk⟩ : ∃ (hd : Nd) (inner : List Shp), toldS x = hd :: toldL inner ∧ hd.size = 1 + ((toldL inner).length : Int) ∧ (hd.kind = 1 ∨ inner = []) := by
        cases x with
        | box w h => exact ⟨_, [], rfl, rfl, .inr rfl⟩
        | block s i => exact ⟨_, i, by rw [toldS], rfl, .inl rfl⟩
        | text ns => exact ⟨_, [], rfl, rfl, .inr rfl⟩
        | float w h d => exact ⟨_, [], rfl, rfl, .inr rfl⟩
      rw [toldL, ht] at h ⊢
      simp only [List.cons_append,List.length_cons,List.length_append] at h ⊢
      have hget : (pre ++ hd :: (toldL inner ++ toldL xs) ++ post)[pre.length]? = some hd := by simp
      rw [rowsB, dif_pos (by omega), hget]
      simp only
      rw [dif_pos (by omega)]
      have e1 : pre.length + hd.size.toNat = pre.length + 1 + (toldL inner).length := by omega
      rw [e1]
      have i1 := ih inner (pre ++ [hd]) (toldL xs ++ post) (by omega)
      have i2 := ih xs (pre ++ hd :: toldL inner) post (by omega)
      have l1 : pre ++ [hd] ++ toldL inner ++ (toldL xs ++ post) = pre ++ hd :: (toldL inner ++ toldL xs) ++ post := by simp
      have l2 : pre ++ hd :: toldL inner ++ toldL xs ++ post = pre ++ hd :: (toldL inner ++ toldL xs) ++ post := by simp
      rw [l1] at i1
      rw [l2] at i2
      simp only [List.length_append,List.length_cons,List.length_nil] at i1 i2
      rw [show pre.length + (0 + 1) + (toldL inner).length = pre.length + 1 + (toldL inner).length by omega, show pre.length + (0 + 1) = pre.length + 1 by omega] at i1
      rw [show pre.length + ((toldL inner).length + 1) + (toldL xs).length = pre.length + ((toldL inner).length + (toldL xs).length + 1) by omega, show pre.length + ((toldL inner).length + 1) = pre.length + 1 + (toldL inner).length by omega] at i2
      rw [i1, i2]
      rcases hk with hk | rfl
      · simp [hk]
      · have : hd.size ≤ 1 := by simp [toldL] at hsz; omega
        simp [this]
end Go.Vc
namespace Go.Vc
theorem isB_told {xs : List Shp} (h : ∀ x ∈ toldL xs, x.ok = true) : isB (toldL xs) = true := by
  have h2 := rowsB_told _ xs [] [] (Nat.le_refl _)
  simp only [List.nil_append,List.append_nil,List.length_nil,Nat.zero_add] at h2
  simp only [isB,Bool.and_eq_true,List.all_eq_true]
  exact ⟨h, h2⟩
end Go.Vc
namespace Go.Vc
theorem dec_step (u : Nat) (h : ¬ u < 10) : Lib.decDigits u = Lib.decDigits (u / 10) ++ [UInt8.ofNat (48 + u % 10)] := by rw [Lib.decDigits, dif_neg h]
theorem dec_ne (u : Nat) : Lib.decDigits u ≠ [] := by
  unfold Lib.decDigits
  split <;> simp
theorem dec_lim : ∀ (u : Nat), u ≤ 1099511627776 → (Lib.decDigits u).length ≤ 13 := by
  have step : ∀ (k u : Nat), u < 10 ^ (k + 1) → (Lib.decDigits u).length ≤ k + 1 := by
    intro k
    induction k with
    | zero => intro u h; rw [Lib.decDigits_one (by simpa using h)]; simp
    | succ k ih =>
      intro u h
      by_cases h9 : u < 10
      · rw [Lib.decDigits_one h9]; simp
      · rw [dec_step u h9]
        have := ih (u / 10) (by rw [Nat.pow_succ] at h; omega)
        simp; omega
  intro u hu
  exact step 12 u (by omega)
def dg (n : Int) : List UInt8 := Lib.decDigits n.toNat
theorem dg_itoa {n : Int} (h : 0 ≤ n) : Lib.itoa n = dg n := by unfold Lib.itoa dg; rw [if_neg (by omega)]
def inN (n : Int) : Prop := 0 ≤ n ∧ n ≤ 1099511627776
theorem dg_len {n : Int} (h : inN n) : (dg n).length ≤ 13 ∧ 1 ≤ (dg n).length := by
  refine ⟨dec_lim _ (by unfold inN at h; omega), ?_⟩
  have := dec_ne n.toNat
  unfold dg
  cases hd : Lib.decDigits n.toNat with
  | nil => exact absurd hd this
  | cons => simp
def Tk.at0 (t : Tk) : Tk := { t with at' := 0 }
section
end
def LexTo (T : List UInt8) (i : Nat) (ts : List Tk) (j : Nat) : Prop := ∃ l, l.map Tk.at0 = ts ∧ ofI T false i = (ofI T false j).app l
theorem LexTo.refl (T : List UInt8) (i : Nat) : LexTo T i [] i := ⟨[], rfl, (Res.app_nil _).symm⟩
theorem Res.app_app (a b : List Tk) (r : Res) : (r.app b).app a = r.app (a ++ b) := by cases r <;> simp [Res.app]
theorem LexTo.trans {T : List UInt8} {i j k : Nat} {a b : List Tk} (h1 : LexTo T i a j) (h2 : LexTo T j b k) : LexTo T i (a ++ b) k := by
  obtain ⟨l, rfl, e1⟩ := h1
  obtain ⟨m, rfl, e2⟩ := h2
  exact ⟨l ++ m, by simp, by rw [e1, e2, Res.app_app]⟩
end Go.Vc
namespace Go.Vc
def attX (s : List Int) : Nat → Nat → List UInt8
  | 0, _ => []
  | m + 1, j => (if s.getD j 0 = plainS.getD j 0 then [] else lettersB.getD j 0 :: dg (s.getD j 0)) ++ attX s m (j + 1)
def joinX : List Int → List UInt8
  | [] => []
  | [n] => dg n
  | n :: m :: l => dg n ++ 32 :: joinX (m :: l)
mutual
/-- a shape's text; shapes' texts, behind each so-and-so -/
def txtS : Shp → List UInt8
  | .box w h => 123 :: (joinX [w, h] ++ [125])
  | .block s inner => 91 :: (attX s 12 0 ++ (txtL [] inner ++ [93]))
  | .text ns => 40 :: (joinX ns ++ [41])
  | .float w h d => 60 :: (if d = 2 then 82 else 76) :: (joinX [w, h] ++ [62])
def txtL (e : List UInt8) : List Shp → List UInt8
  | [] => []
  | x :: l => txtS x ++ (e ++ txtL e l)
end
mutual
/-- numbers such as a reader takes -/
def okS : Shp → Prop
  | .box w h => (1 ≤ w ∧ w ≤ MX) ∧ (1 ≤ h ∧ h ≤ MX)
  | .block s inner => (s.length = 12 ∧ okL s) ∧ okSs inner
  | .text ns => ∃ a b c r, ns = a :: b :: c :: r ∧ (1 ≤ a ∧ a ≤ MX) ∧ (0 ≤ b ∧ b ≤ MX) ∧ (1 ≤ c ∧ c ≤ MX) ∧ ∀ n ∈ r, 1 ≤ n ∧ n ≤ MX
  | .float w h d => (1 ≤ w ∧ w ≤ MX) ∧ (1 ≤ h ∧ h ≤ MX) ∧ (d = 1 ∨ d = 2)
def okSs : List Shp → Prop
  | [] => True
  | x :: l => okS x ∧ okSs l
end
theorem inN_of {n : Int} (h : 1 ≤ n ∧ n ≤ MX) : inN n := by have hMX : MX = 1099511627776 := rfl; unfold inN; omega
theorem inN_of0 {n : Int} (h : 0 ≤ n ∧ n ≤ MX) : inN n := by have hMX : MX = 1099511627776 := rfl; unfold inN; omega
theorem okL_in {s : List Int} (h : okL s) (j : Nat) : inN (s.getD j 0) := by
  rw [List.getD_eq_getElem?_getD]
  cases hj : s[j]? with
  | none => simp [inN]
  | some v =>
    have := h j v hj
    have h1 : 0 ≤ loK j := by unfold loK; split <;> omega
    have h2 : hiK j ≤ MX := by unfold hiK; (repeat' split) <;> decide
    exact inN_of0 (by simp only [Option.getD_some]; omega)
end Go.Vc
namespace Go.Vc
def costN (x : Nd) : Nat := 400 + 14 * x.words.length
def costs : List Nd → Nat
  | [] => 0
  | x :: l => costN x + costs l
theorem costs_app (a b : List Nd) : costs (a ++ b) = costs a + costs b := by
  induction a with
  | nil => simp [costs]
  | cons x a ih => simp [costs, ih]; omega
theorem joinX_len {ns : List Int} (h : ∀ n ∈ ns, inN n) : (joinX ns).length ≤ 14 * ns.length := by
  induction ns with
  | nil => simp [joinX]
  | cons a ns ih =>
    have ha := (dg_len (h a (by simp))).1
    cases ns with
    | nil => simp [joinX]; omega
    | cons b ns =>
      have := ih (fun n hn => h n (by simp [hn]))
      simp only [joinX,List.length_append,List.length_cons] at this ⊢
      omega
theorem attX_len {s : List Int} (h : ∀ j, inN (s.getD j 0)) : ∀ (m j : Nat), (attX s m j).length ≤ 14 * m
  | 0, _ => by simp [attX]
  | m + 1, j => by
    have h1 := attX_len h m (j + 1)
    have h2 := (dg_len (h j)).1
    rw [attX]
    split <;> simp only [List.length_append,List.length_cons,List.length_nil] <;> omega
theorem okT_in {ns : List Int} (h : okS (.text ns)) : (∀ n ∈ ns, inN n) ∧ 2 ≤ ns.length := by
  obtain ⟨a, b, c, r, rfl, ha, hb, hc, hr⟩ := h
  refine ⟨fun n hn => ?_, by simp⟩
  simp only [List.mem_cons] at hn
  rcases hn with rfl | rfl | rfl | hn
  · exact inN_of ha
  · exact inN_of0 hb
  · exact inN_of hc
  · exact inN_of (hr _ hn)
mutual
theorem txtS_len : ∀ x : Shp, okS x → (txtS x).length + 1 ≤ costs (toldS x)
  | .box w h, hx => by
    have h1 := (dg_len (inN_of hx.1)).1
    have h2 := (dg_len (inN_of hx.2)).1
    simp [txtS, joinX, toldS, costs, costN]; omega
  | .float w h d, hx => by
    have h1 := (dg_len (inN_of hx.1)).1
    have h2 := (dg_len (inN_of hx.2.1)).1
    simp [txtS, joinX, toldS, costs, costN]; omega
  | .text ns, hx => by
    obtain ⟨h1, h2⟩ := okT_in hx
    have h3 := joinX_len h1
    simp [txtS, toldS, costs, costN, ndS]; omega
  | .block s inner, hx => by
    have h1 := txtL_len inner hx.2 [] (by simp)
    have h2 := attX_len (okL_in hx.1.2) 12 0
    simp [txtS, toldS, costs, costN, ndS]; omega
theorem txtL_len : ∀ xs : List Shp, okSs xs → ∀ e : List UInt8, e.length ≤ 1 → (txtL e xs).length ≤ costs (toldL xs)
  | [], _, _, _ => by simp [txtL]
  | x :: l, hx, e, he => by
    have h1 := txtS_len x hx.1
    have h2 := txtL_len l hx.2 e he
    simp only [txtL,toldL,costs_app,List.length_append]; omega
end
end Go.Vc
namespace Go.Vc
open Go.Proofs
section
variable {P : Program} {n : Nat} {st : St} {Q : St → Prop} {k : List It}
theorem Go.pcallG {i : VIns} {l : List VIns} {fx : VX} {xs : List VX} {f : FuncId} {caps : List V} {v : V} (hw : wantV st.s i.g = some true) (ho : i.op = .call fx xs)
    (hf : fx.ev st.s = .fn f caps) (hc : PFun P f (xs.map (·.ev st.s) ++ caps) v) (h : Go P n (.d l k) ⟨putO st.s i.dst v, st.σ⟩ Q) : Go P n (.d (i :: l) k) st Q := by
  refine T_true hw ?_
  rw [ho]
  exact ⟨f, caps, v, hf, fun σ1 _ => hc σ1, h⟩
end
theorem Contract.args {P : Program} {f : FuncId} {args args' : List V} {σ : Store} {Post : V → Store → Prop} (hw : WkL σ σ args args') (h : Contract P f args' σ Post) : Contract P f args σ Post :=
  ⟨h.1, fun μ w vals hs hr => h.2 μ w vals hs (WkL.all hs hw hr)⟩
end Go.Vc
namespace Go.Vc
open Go.Proofs
theorem btW : BT 70 := ⟨by kernel_rfl, by kernel_rfl⟩
theorem IsB.grow {T u8 : TypeId} {K σ σ' : Store} {id idn : Nat} {l : List UInt8} {o : Ob} (h : IsB T u8 K σ id l) (hs : SubStore σ σ') (hn : σ idn = none) (ho : σ' idn = some o) : IsB T u8 (upd K idn o) σ' id l := by
  obtain ⟨hK, hn0, a, buf, hid, ha, hout⟩ := h
  have hne : id ≠ idn := by rintro rfl; rw [hid] at hn; cases hn
  refine ⟨fun i x hx => ?_, by rw [upd_ne hne]; exact hn0, a, buf, hs _ _ hid, ha, ?_⟩
  · by_cases hi : i = idn
    · subst hi; rw [upd_same] at hx; rw [← hx]; exact ho
    · rw [upd_ne hi] at hx; exact hs _ _ (hK _ _ hx)
  · rcases hout with h1 | ⟨i, h1, h2, h3⟩
    · exact .inl h1
    · have hi1 : i ≠ id := by rintro rfl; simp [Vc.upd] at h3
      have hi2 : i ≠ idn := by rintro rfl; rw [h2] at hn; cases hn
      refine .inr ⟨i, h1, hs _ _ h2, ?_⟩
      rw [upd_ne hi1] at h3 ⊢
      rw [upd_ne hi2]; exact h3
theorem joinX_take (ns : List Int) : ∀ (i : Nat) (h : i < ns.length), joinX (ns.take (i + 1)) = joinX (ns.take i) ++ ((if 0 < i then [32] else []) ++ dg ns[i]) := by
  induction ns with
  | nil => intro i h; simp at h
  | cons a ns ih =>
    intro i h
    cases i with
    | zero => simp [joinX]
    | succ i =>
      have h' : i < ns.length := by simpa using h
      have := ih i h'
      cases ns with
      | nil => simp at h'
      | cons b ns =>
        rw [List.take_succ_cons, List.take_succ_cons, joinX]
        rw [List.take_succ_cons] at this
        rw [this]
        cases i with
        | zero => simp [joinX]
        | succ i => simp [joinX]
set_option maxRecDepth 100000 in
theorem numbers_c {K σ : Store} {id idn n : Nat} {l : List UInt8} (ns : List Int) (hns : ∀ n ∈ ns, inN n) (h : IsB 70 5 K σ id l) (hn : n = ns.length) (hK : K idn = some ⟨3, 1, ns.map vI⟩) (hl : l.length + 14 * ns.length ≤ 1000000000) :
    Contract Tryd.prog 52 [.ptr id 0 0, .own idn 0 n] σ fun r σ' => r = .tup [] ∧ IsB 70 5 K σ' id (l ++ joinX ns) := by
  subst hn
  refine Contract.of_runs Tryd.func52 e52 k52 (by simp [c52]) ?_
  refine Runs.mix 9 ?_
  (refine Runs.of_step Orc.nothing 300 ?_; simp -implicitDefEqProofs only [BB,seval,← decide_not,okind,vpre,vpure,intBin,intPre,strBin,strPre,popTo,argSlots,fldV,fldAV,subCells,idxVV,idxAAV,idxSV,sliceV,sliceSV,boundV,szIs,storeOp,storeS,setRowV,eff,extV,buildV,splice,eqSV,fitsL,eqCells,eqCell,minmaxV,capV,binBV,nilCheckV,bytesV,V.cells,V.stays,Orc.nothing,c52])
  refine Runs.loop (fun m st => ∃ i : Nat, i ≤ ns.length ∧ m = ns.length - i ∧ IsB 70 5 K st.σ id (l ++ joinX (ns.take i)) ∧ st.s 0 = .ptr id 0 0 ∧ st.s 6 = .own idn 0 ns.length ∧ st.s 7 = vI ns.length ∧ st.s 8 = vI i) ns.length ?_ ?_
  · exact ⟨0, by omega, by omega, by simpa [joinX] using h, rfl, rfl, rfl, rfl⟩
  · rintro m ⟨s, σ1⟩ ⟨i, hi, rfl, hB, h0, h6, h7, h8⟩
    simp only at h0 h6 h7 h8 hB
    refine Runs.mix 9 ?_
    have hidn := hB.sub _ _ hK
    by_cases hlt : i < ns.length
    · have hlt' : ((i : Int) < ((ns.length : Nat) : Int)) = True := by simp; omega
      have hin := hns _ (List.getElem_mem hlt)
      have hjl : (joinX (ns.take i)).length ≤ 14 * i := by
        have := joinX_len (ns := ns.take i) (fun n hn => hns n (List.mem_of_mem_take hn))
        rw [List.length_take, Nat.min_eq_left (by omega)] at this; exact this
      have hd := (dg_len hin).1
      have ht := joinX_take ns i hlt
      have hin' := hin
      unfold inN at hin'
      have hidx : idxAV σ1 1 (.own idn 0 ns.length) (vI i) = some (.ptr idn i 0) := by simp [idxAV, hidn, hlt]
      have hld : loadV σ1 false 1 (.ptr idn i 0) = some (vI ns[i]) := by simp [loadV, hidn, hlt, V.cells]
      have r1 : inR .i64 ((i : Int) + 1) := inR_i64 (by omega) (by omega)
      generalize ns[i] = v at *
      have hit : Lib.itoa v = dg v := dg_itoa (by omega)
      by_cases hi0 : 0 < i
      · have hg : ((0 : Int) < (i : Int)) = True := by simp; omega
        rw [if_pos hi0] at ht
        (refine Runs.of_step Orc.nothing 300 ?_; simp -implicitDefEqProofs only [BB,seval,← decide_not,okind,vpre,vpure,intBin,intPre,strBin,strPre,popTo,argSlots,fldV,fldAV,subCells,idxVV,idxAAV,idxSV,sliceV,sliceSV,boundV,szIs,storeOp,storeS,setRowV,eff,extV,buildV,splice,eqSV,fitsL,eqCells,eqCell,minmaxV,capV,binBV,nilCheckV,bytesV,V.cells,V.stays,Orc.nothing,h0,h6,h7,h8,hlt',hidx,hld,hg])
        refine Runs.call rfl rfl rfl (wbyte_c btW 32 32 rfl hB (by simp only [List.length_append]; omega)) ?_
        rintro r σ2 ⟨rfl, hB2⟩
        (refine Runs.of_step Orc.nothing 300 ?_; simp -implicitDefEqProofs only [BB,seval,← decide_not,okind,vpre,vpure,intBin,intPre,strBin,strPre,popTo,argSlots,fldV,fldAV,subCells,idxVV,idxAAV,idxSV,sliceV,sliceSV,boundV,szIs,storeOp,storeS,setRowV,eff,extV,buildV,splice,eqSV,fitsL,eqCells,eqCell,minmaxV,capV,binBV,nilCheckV,bytesV,V.cells,V.stays,Orc.nothing,h0,h6,h7,h8])
        refine Go.pcallG rfl rfl rfl (itoaN_c v (by omega) (by omega)) ?_
        (refine Go.of_step Orc.nothing 300 _ _ ?_; simp -implicitDefEqProofs only [BB,seval,← decide_not,okind,vpre,vpure,intBin,intPre,strBin,strPre,popTo,argSlots,fldV,fldAV,subCells,idxVV,idxAAV,idxSV,sliceV,sliceSV,boundV,szIs,storeOp,storeS,setRowV,eff,extV,buildV,splice,eqSV,fitsL,eqCells,eqCell,minmaxV,capV,binBV,nilCheckV,bytesV,V.cells,V.stays,Orc.nothing,h0,h6,h7,h8])
        refine Runs.call rfl rfl rfl (wstr_c btW (Lib.itoa v) hB2 (by rw [hit]; simp only [List.length_append,List.length_cons,List.length_nil]; omega)) ?_
        rintro r σ3 ⟨rfl, hB3⟩
        (refine Runs.of_step Orc.nothing 300 ?_; simp -implicitDefEqProofs only [BB,seval,← decide_not,okind,vpre,vpure,intBin,intPre,strBin,strPre,popTo,argSlots,fldV,fldAV,subCells,idxVV,idxAAV,idxSV,sliceV,sliceSV,boundV,szIs,storeOp,storeS,setRowV,eff,extV,buildV,splice,eqSV,fitsL,eqCells,eqCell,minmaxV,capV,binBV,nilCheckV,bytesV,V.cells,V.stays,Orc.nothing,h0,h6,h7,h8,r1])
        refine ⟨_, by omega, i + 1, by omega, rfl, ?_, by simp⟩
        rw [ht, ← hit]
        simpa using hB3
      · have hi00 : i = 0 := by omega
        have hg : ((0 : Int) < (i : Int)) = False := by simp; omega
        rw [if_neg hi0] at ht
        (refine Runs.of_step Orc.nothing 300 ?_; simp -implicitDefEqProofs only [BB,seval,← decide_not,okind,vpre,vpure,intBin,intPre,strBin,strPre,popTo,argSlots,fldV,fldAV,subCells,idxVV,idxAAV,idxSV,sliceV,sliceSV,boundV,szIs,storeOp,storeS,setRowV,eff,extV,buildV,splice,eqSV,fitsL,eqCells,eqCell,minmaxV,capV,binBV,nilCheckV,bytesV,V.cells,V.stays,Orc.nothing,h0,h6,h7,h8,hlt',hidx,hld,hg])
        refine Go.pcallG rfl rfl rfl (itoaN_c v (by omega) (by omega)) ?_
        (refine Go.of_step Orc.nothing 300 _ _ ?_; simp -implicitDefEqProofs only [BB,seval,← decide_not,okind,vpre,vpure,intBin,intPre,strBin,strPre,popTo,argSlots,fldV,fldAV,subCells,idxVV,idxAAV,idxSV,sliceV,sliceSV,boundV,szIs,storeOp,storeS,setRowV,eff,extV,buildV,splice,eqSV,fitsL,eqCells,eqCell,minmaxV,capV,binBV,nilCheckV,bytesV,V.cells,V.stays,Orc.nothing,h0,h6,h7,h8])
        refine Runs.call rfl rfl rfl (wstr_c btW (Lib.itoa v) hB (by rw [hit]; simp only [List.length_append]; omega)) ?_
        rintro r σ3 ⟨rfl, hB3⟩
        (refine Runs.of_step Orc.nothing 300 ?_; simp -implicitDefEqProofs only [BB,seval,← decide_not,okind,vpre,vpure,intBin,intPre,strBin,strPre,popTo,argSlots,fldV,fldAV,subCells,idxVV,idxAAV,idxSV,sliceV,sliceSV,boundV,szIs,storeOp,storeS,setRowV,eff,extV,buildV,splice,eqSV,fitsL,eqCells,eqCell,minmaxV,capV,binBV,nilCheckV,bytesV,V.cells,V.stays,Orc.nothing,h0,h6,h7,h8,r1])
        refine ⟨_, by omega, i + 1, by omega, rfl, ?_, by simp⟩
        rw [ht, ← hit]
        simpa using hB3
    · have hi' : i = ns.length := by omega
      subst hi'
      have hlt' : (((ns.length : Nat) : Int) < ((ns.length : Nat) : Int)) = False := by simp
      rw [List.take_length] at hB
      (refine Runs.of_step Orc.nothing 300 ?_; simp -implicitDefEqProofs only [BB,seval,← decide_not,okind,vpre,vpure,intBin,intPre,strBin,strPre,popTo,argSlots,fldV,fldAV,subCells,idxVV,idxAAV,idxSV,sliceV,sliceSV,boundV,szIs,storeOp,storeS,setRowV,eff,extV,buildV,splice,eqSV,fitsL,eqCells,eqCell,minmaxV,capV,binBV,nilCheckV,bytesV,V.cells,V.stays,Orc.nothing,h0,h6,h7,h8,hlt'])
      exact ⟨_, _, SubStore.refl _, Wk.refl (SubStore.refl _) _, rfl, hB⟩
end Go.Vc
namespace Go.Vc
open Go.Proofs
def attV (s : List Int) (j : Nat) : List V := [.int .u8 (lettersB.getD j 0).toNat, vI (s.getD j 0), vI (plainS.getD j 0)]
def tabV (s : List Int) : List V := attV s 0 ++ (attV s 1 ++ (attV s 2 ++ (attV s 3 ++ (attV s 4 ++ (attV s 5 ++ (attV s 6 ++ (attV s 7 ++ (attV s 8 ++ (attV s 9 ++ (attV s 10 ++ attV s 11))))))))))
set_option maxRecDepth 100000 in
set_option maxHeartbeats 1000000 in
theorem table_c (s : List Int) (h : s.length = 12) : PFun Tryd.prog 51 [.agg (s.map vI)] (.agg (tabV s)) := fun σ => by
  obtain ⟨a0, a1, a2, a3, a4, a5, a6, a7, a8, a9, a10, a11, rfl⟩ : ∃ a0 a1 a2 a3 a4 a5 a6 a7 a8 a9 a10 a11, s = [a0, a1, a2, a3, a4, a5, a6, a7, a8, a9, a10, a11] := by
    match s, h with
    | [a0, a1, a2, a3, a4, a5, a6, a7, a8, a9, a10, a11], _ => exact ⟨_, _, _, _, _, _, _, _, _, _, _, _, rfl⟩
  refine Contract.of_runs Tryd.func51 e51 k51 (by simp [c51]) ?_
  refine Runs.mix 9 ?_
  (refine Runs.of_step Orc.nothing 300 ?_; simp -implicitDefEqProofs only [BB,seval,← decide_not,okind,vpre,vpure,intBin,intPre,strBin,strPre,popTo,argSlots,fldV,fldAV,subCells,idxVV,idxAAV,idxSV,sliceV,sliceSV,boundV,szIs,storeOp,storeS,setRowV,eff,extV,buildV,splice,eqSV,fitsL,eqCells,eqCell,minmaxV,capV,binBV,nilCheckV,bytesV,V.cells,V.stays,Orc.nothing,c51])
  refine effR_new fun id1 σ1 s1 r1 f1 => ?_
  simp -implicitDefEqProofs only [BB,seval,← decide_not,okind,vpre,vpure,intBin,intPre,strBin,strPre,popTo,argSlots,fldV,fldAV,subCells,idxVV,idxAAV,idxSV,sliceV,sliceSV,boundV,szIs,storeOp,storeS,setRowV,eff,extV,buildV,splice,eqSV,fitsL,eqCells,eqCell,minmaxV,capV,binBV,nilCheckV,bytesV,V.cells,V.stays,r1]
  refine effR_new fun id2 σ2 s2 r2 f2 => ?_
  have r1' := s2 _ _ r1
  have n12 : id1 ≠ id2 := ne_new r1 f2
  simp -implicitDefEqProofs only [BB,seval,← decide_not,okind,vpre,vpure,intBin,intPre,strBin,strPre,popTo,argSlots,fldV,fldAV,subCells,idxVV,idxAAV,idxSV,sliceV,sliceSV,boundV,szIs,storeOp,storeS,setRowV,eff,extV,buildV,splice,eqSV,fitsL,eqCells,eqCell,minmaxV,capV,binBV,nilCheckV,bytesV,V.cells,V.stays,r1',r2]
  refine Runs.pcall rfl rfl rfl (plain_c _) ?_
  (refine Runs.of_step Orc.nothing 300 ?_; simp -implicitDefEqProofs only [BB,seval,← decide_not,okind,vpre,vpure,intBin,intPre,strBin,strPre,popTo,argSlots,fldV,fldAV,subCells,idxVV,idxAAV,idxSV,sliceV,sliceSV,boundV,szIs,storeOp,storeS,setRowV,eff,extV,buildV,splice,eqSV,fitsL,eqCells,eqCell,minmaxV,capV,binBV,nilCheckV,bytesV,V.cells,V.stays,Orc.nothing,r1',r2])
  refine effR_new fun id3 σ3 s3 r3 f3 => ?_
  have r1'' := s3 _ _ r1'
  have r2' := s3 _ _ r2
  have n13 : id1 ≠ id3 := ne_new r1' f3
  have n23 : id2 ≠ id3 := ne_new r2 f3
  simp -implicitDefEqProofs only [BB,seval,← decide_not,okind,vpre,vpure,intBin,intPre,strBin,strPre,popTo,argSlots,fldV,fldAV,subCells,idxVV,idxAAV,idxSV,sliceV,sliceSV,boundV,szIs,storeOp,storeS,setRowV,eff,extV,buildV,splice,eqSV,fitsL,eqCells,eqCell,minmaxV,capV,binBV,nilCheckV,bytesV,V.cells,V.stays,r1'',r2',r3,upd_ne n13,upd_ne n23]
  exact .pure (((s1.trans (s2.trans s3)).updK ((s1.trans s2).none f3)).updK (s1.none f2)) rfl
theorem tab_idx (s : List Int) (j : Nat) (hj : j < 12) : idxVV true 12 3 (.agg (tabV s)) (vI j) = some (.agg (attV s j)) := by
  match j, hj with
  | 0, _ | 1, _ | 2, _ | 3, _ | 4, _ | 5, _ | 6, _ | 7, _ | 8, _ | 9, _ | 10, _ | 11, _ => rfl
set_option maxRecDepth 100000 in
theorem begin_c {K σ : Store} {id : Nat} {l : List UInt8} (s : List Int) (hs : s.length = 12) (hin : ∀ j, inN (s.getD j 0)) (h : IsB 70 5 K σ id l) (hl : l.length ≤ 900000000 - 1000) :
    Contract Tryd.prog 31 [.ptr id 0 0, .agg (s.map vI)] σ fun r σ' => r = .tup [] ∧ IsB 70 5 K σ' id (l ++ (91 :: attX s 12 0)) := by
  have hcl : (s.map vI).length = 12 := by simp [hs]
  have hst : (s.map vI).all V.stays = true := by simp [V.stays]
  refine Contract.of_runs Tryd.func31 e31 k31 (by simp [c31]) ?_
  refine Runs.mix 13 ?_
  (refine Runs.of_step Orc.nothing 300 ?_; simp -implicitDefEqProofs only [BB,seval,← decide_not,okind,vpre,vpure,intBin,intPre,strBin,strPre,popTo,argSlots,fldV,fldAV,subCells,idxVV,idxAAV,idxSV,sliceV,sliceSV,boundV,szIs,storeOp,storeS,setRowV,eff,extV,buildV,splice,eqSV,fitsL,eqCells,eqCell,minmaxV,capV,binBV,nilCheckV,bytesV,V.cells,V.stays,Orc.nothing,c31,hcl,hst])
  refine effR_new fun id1 σ1 s1 r1 f1 => ?_
  simp -implicitDefEqProofs only [BB,seval,← decide_not,okind,vpre,vpure,intBin,intPre,strBin,strPre,popTo,argSlots,fldV,fldAV,subCells,idxVV,idxAAV,idxSV,sliceV,sliceSV,boundV,szIs,storeOp,storeS,setRowV,eff,extV,buildV,splice,eqSV,fitsL,eqCells,eqCell,minmaxV,capV,binBV,nilCheckV,bytesV,V.cells,V.stays,r1,hcl]
  refine Runs.call rfl rfl rfl (wbyte_c btW 91 91 rfl (h.grow s1 f1 r1) (by omega)) ?_
  rintro r σ2 ⟨rfl, hB1⟩
  have hr2 := hB1.sub _ _ upd_same
  have hB2 := hB1.less ((SubStore.refl K).upd_new (h.sub.none f1))
  (refine Runs.of_step Orc.nothing 300 ?_; simp -implicitDefEqProofs only [BB,seval,← decide_not,okind,vpre,vpure,intBin,intPre,strBin,strPre,popTo,argSlots,fldV,fldAV,subCells,idxVV,idxAAV,idxSV,sliceV,sliceSV,boundV,szIs,storeOp,storeS,setRowV,eff,extV,buildV,splice,eqSV,fitsL,eqCells,eqCell,minmaxV,capV,binBV,nilCheckV,bytesV,V.cells,V.stays,Orc.nothing,hr2,hcl])
  refine Runs.pcall rfl rfl rfl (table_c s hs _) ?_
  (refine Runs.of_step Orc.nothing 300 ?_; simp -implicitDefEqProofs only [BB,seval,← decide_not,okind,vpre,vpure,intBin,intPre,strBin,strPre,popTo,argSlots,fldV,fldAV,subCells,idxVV,idxAAV,idxSV,sliceV,sliceSV,boundV,szIs,storeOp,storeS,setRowV,eff,extV,buildV,splice,eqSV,fitsL,eqCells,eqCell,minmaxV,capV,binBV,nilCheckV,bytesV,V.cells,V.stays,Orc.nothing])
  refine Runs.loop (fun m st => ∃ (j : Nat) (dn : List UInt8), j ≤ 12 ∧ m = 12 - j ∧ IsB 70 5 K st.σ id (l ++ (91 :: dn)) ∧ dn ++ attX s (12 - j) j = attX s 12 0 ∧ st.s 0 = .ptr id 0 0 ∧ st.s 11 = .agg (tabV s) ∧ st.s 12 = vI j) 12 ?_ ?_
  · exact ⟨0, [], by omega, by omega, by simpa using hB2, by simp, rfl, rfl, rfl⟩
  · rintro m ⟨S, σ3⟩ ⟨j, dn, hj, rfl, hB, hdn, h0, h11, h12⟩
    simp only at h0 h11 h12 hB
    refine Runs.mix 13 ?_
    have hlen := attX_len hin 12 0
    rw [← hdn, List.length_append] at hlen
    by_cases hlt : j < 12
    · have hlt' : ((j : Int) < 12) = True := by simp; omega
      have hix := tab_idx s j hlt
      have r2 : inR .i64 ((j : Int) + 1) := inR_i64 (by omega) (by omega)
      have hv := hin j
      rw [show 12 - j = (12 - (j + 1)) + 1 by omega, attX] at hdn
      unfold attV at hix
      generalize s.getD j 0 = a at *
      generalize plainS.getD j 0 = p at *
      generalize lettersB.getD j 0 = u at *
      (refine Runs.of_step Orc.nothing 300 ?_; simp -implicitDefEqProofs only [BB,seval,← decide_not,okind,vpre,vpure,intBin,intPre,strBin,strPre,popTo,argSlots,fldV,fldAV,subCells,idxAAV,idxSV,sliceV,sliceSV,boundV,szIs,storeOp,storeS,setRowV,eff,extV,buildV,splice,eqSV,fitsL,eqCells,eqCell,minmaxV,capV,binBV,nilCheckV,bytesV,V.cells,V.stays,Orc.nothing,h0,h11,h12,hlt',hix])
      refine effR_new fun id5 σ5 s5 r5 f5 => ?_
      by_cases hq : a = p
      · rw [if_pos hq] at hdn
        have hq' : (a ≠ p) = False := by simp [hq]
        simp -implicitDefEqProofs only [BB,seval,← decide_not,okind,vpre,vpure,intBin,intPre,strBin,strPre,popTo,argSlots,fldV,fldAV,subCells,idxVV,idxAAV,idxSV,sliceV,sliceSV,boundV,szIs,storeOp,storeS,setRowV,eff,extV,buildV,splice,eqSV,fitsL,eqCells,eqCell,minmaxV,capV,binBV,nilCheckV,bytesV,V.cells,V.stays,r5,h0,h11,h12,hq',r2]
        refine ⟨_, by omega, j + 1, dn, by omega, rfl, hB.mono (s5.updK f5), ?_, by simp⟩
        rw [← hdn]; simp
      · rw [if_neg hq] at hdn
        have hq' : (a ≠ p) = True := by simp [hq]
        simp -implicitDefEqProofs only [BB,seval,← decide_not,okind,vpre,vpure,intBin,intPre,strBin,strPre,popTo,argSlots,fldV,fldAV,subCells,idxVV,idxAAV,idxSV,sliceV,sliceSV,boundV,szIs,storeOp,storeS,setRowV,eff,extV,buildV,splice,eqSV,fitsL,eqCells,eqCell,minmaxV,capV,binBV,nilCheckV,bytesV,V.cells,V.stays,r5,h0,h11,h12,hq',r2]
        have hgl : (l ++ 91 :: dn).length ≤ 300000000 + 600000000 := by simp only [List.length_append,List.length_cons]; omega
        refine Runs.call rfl rfl rfl (wbyte_c btW u.toNat u rfl (hB.grow (s5.updK f5) f5 upd_same) (by omega)) ?_
        rintro r σ6 ⟨rfl, hB6⟩
        have hr6 := hB6.sub _ _ upd_same
        have hB6' := hB6.less ((SubStore.refl K).upd_new (hB.sub.none f5))
        (refine Runs.of_step Orc.nothing 300 ?_; simp -implicitDefEqProofs only [BB,seval,← decide_not,okind,vpre,vpure,intBin,intPre,strBin,strPre,popTo,argSlots,fldV,fldAV,subCells,idxVV,idxAAV,idxSV,sliceV,sliceSV,boundV,szIs,storeOp,storeS,setRowV,eff,extV,buildV,splice,eqSV,fitsL,eqCells,eqCell,minmaxV,capV,binBV,nilCheckV,bytesV,V.cells,V.stays,Orc.nothing,hr6,h0,h11,h12,r2])
        refine effR_new fun id7 σ7 s7 r7 f7 => ?_
        simp -implicitDefEqProofs only [BB,seval,← decide_not,okind,vpre,vpure,intBin,intPre,strBin,strPre,popTo,argSlots,fldV,fldAV,subCells,idxVV,idxAAV,idxSV,sliceV,sliceSV,boundV,szIs,storeOp,storeS,setRowV,eff,extV,buildV,splice,eqSV,fitsL,eqCells,eqCell,minmaxV,capV,binBV,nilCheckV,bytesV,V.cells,V.stays,r7,hr6,h0,h11,h12,r2]
        have hB7 := hB6'.grow s7 f7 r7
        refine Runs.call rfl rfl rfl (numbers_c [a] (by simpa using hv) hB7 rfl (by rw [upd_same]; rfl) (by simp only [List.length_append,List.length_cons,List.length_nil]; simp only [List.length_append,List.length_cons] at hgl; omega)) ?_
        rintro r σ8 ⟨rfl, hB8⟩
        have hB9 := hB8.less ((SubStore.refl K).upd_new (hB6'.sub.none f7))
        (refine Runs.of_step Orc.nothing 300 ?_; simp -implicitDefEqProofs only [BB,seval,← decide_not,okind,vpre,vpure,intBin,intPre,strBin,strPre,popTo,argSlots,fldV,fldAV,subCells,idxVV,idxAAV,idxSV,sliceV,sliceSV,boundV,szIs,storeOp,storeS,setRowV,eff,extV,buildV,splice,eqSV,fitsL,eqCells,eqCell,minmaxV,capV,binBV,nilCheckV,bytesV,V.cells,V.stays,Orc.nothing,h0,h11,h12,r2])
        refine ⟨_, by omega, j + 1, dn ++ (u :: dg a), by omega, rfl, ?_, ?_, by simp⟩
        · simpa [joinX] using hB9
        · rw [← hdn]; simp
    · have hj' : j = 12 := by omega
      subst hj'
      (refine Runs.of_step Orc.nothing 300 ?_; simp -implicitDefEqProofs only [BB,seval,← decide_not,okind,vpre,vpure,intBin,intPre,strBin,strPre,popTo,argSlots,fldV,fldAV,subCells,idxVV,idxAAV,idxSV,sliceV,sliceSV,boundV,szIs,storeOp,storeS,setRowV,eff,extV,buildV,splice,eqSV,fitsL,eqCells,eqCell,minmaxV,capV,binBV,nilCheckV,bytesV,V.cells,V.stays,Orc.nothing,h0,h11,h12])
      refine ⟨_, _, SubStore.refl _, Wk.refl (SubStore.refl _) _, rfl, ?_⟩
      rw [← hdn]; simpa [attX] using hB
end Go.Vc
namespace Go.Vc
open Go.Proofs
theorem nodeB_c {K σ : Store} {id : Nat} {l : List UInt8} (x : Nd) (hk : x.kind = 3) (hw : inN x.w) (hh : inN x.h) (h : IsB 70 5 K σ id l) (hl : l.length ≤ 900000000) :
    Contract Tryd.prog 33 [.ptr id 0 0, encN x] σ fun r σ' => r = .tup [] ∧ IsB 70 5 K σ' id (l ++ (123 :: (joinX [x.w, x.h] ++ [125]))) := by
  have hJ := joinX_len (ns := [x.w, x.h]) (by simp [hw, hh])
  refine Contract.of_runs Tryd.func33 e33 k33 (by simp [c33]) ?_
  refine Runs.mix 9 ?_
  (refine Runs.of_step Orc.nothing 300 ?_; simp -implicitDefEqProofs only [BB,seval,← decide_not,okind,vpre,vpure,intBin,intPre,strBin,strPre,popTo,argSlots,fldV,fldAV,subCells,idxVV,idxAAV,idxSV,sliceV,sliceSV,boundV,szIs,storeOp,storeS,setRowV,eff,extV,buildV,splice,eqSV,fitsL,eqCells,eqCell,minmaxV,capV,binBV,nilCheckV,bytesV,V.cells,V.stays,Orc.nothing,c33,encN,Nd.cells,encI])
  refine effR_new fun id1 σ1 s1 r1 f1 => ?_
  simp -implicitDefEqProofs only [BB,seval,← decide_not,okind,vpre,vpure,intBin,intPre,strBin,strPre,popTo,argSlots,fldV,fldAV,subCells,idxVV,idxAAV,idxSV,sliceV,sliceSV,boundV,szIs,storeOp,storeS,setRowV,eff,extV,buildV,splice,eqSV,fitsL,eqCells,eqCell,minmaxV,capV,binBV,nilCheckV,bytesV,V.cells,V.stays,r1,hk]
  refine Runs.call rfl rfl rfl (wbyte_c btW 123 123 rfl (h.grow s1 f1 r1) (by omega)) ?_
  rintro r σ2 ⟨rfl, hB1⟩
  have hr2 := hB1.sub _ _ upd_same
  have hB2 := hB1.less ((SubStore.refl K).upd_new (h.sub.none f1))
  (refine Runs.of_step Orc.nothing 300 ?_; simp -implicitDefEqProofs only [BB,seval,← decide_not,okind,vpre,vpure,intBin,intPre,strBin,strPre,popTo,argSlots,fldV,fldAV,subCells,idxVV,idxAAV,idxSV,sliceV,sliceSV,boundV,szIs,storeOp,storeS,setRowV,eff,extV,buildV,splice,eqSV,fitsL,eqCells,eqCell,minmaxV,capV,binBV,nilCheckV,bytesV,V.cells,V.stays,Orc.nothing,hr2])
  refine effR_new fun id3 σ3 s3 r3 f3 => ?_
  simp -implicitDefEqProofs only [BB,seval,← decide_not,okind,vpre,vpure,intBin,intPre,strBin,strPre,popTo,argSlots,fldV,fldAV,subCells,idxVV,idxAAV,idxSV,sliceV,sliceSV,boundV,szIs,storeOp,storeS,setRowV,eff,extV,buildV,splice,eqSV,fitsL,eqCells,eqCell,minmaxV,capV,binBV,nilCheckV,bytesV,V.cells,V.stays,r3,hr2]
  refine Runs.call rfl rfl rfl (numbers_c [x.w, x.h] (by simp [hw, hh]) (hB2.grow s3 f3 r3) rfl (by rw [upd_same]; rfl) (by simp only [List.length_append,List.length_cons,List.length_nil]; omega)) ?_
  rintro r σ4 ⟨rfl, hB4⟩
  have hB5 := hB4.less ((SubStore.refl K).upd_new (hB2.sub.none f3))
  (refine Runs.of_step Orc.nothing 300 ?_; simp -implicitDefEqProofs only [BB,seval,← decide_not,okind,vpre,vpure,intBin,intPre,strBin,strPre,popTo,argSlots,fldV,fldAV,subCells,idxVV,idxAAV,idxSV,sliceV,sliceSV,boundV,szIs,storeOp,storeS,setRowV,eff,extV,buildV,splice,eqSV,fitsL,eqCells,eqCell,minmaxV,capV,binBV,nilCheckV,bytesV,V.cells,V.stays,Orc.nothing])
  refine Runs.call rfl rfl rfl (wbyte_c btW 125 125 rfl hB5 (by simp only [List.length_append,List.length_cons,List.length_nil] at hJ ⊢; omega)) ?_
  rintro r σ6 ⟨rfl, hB6⟩
  (refine Runs.of_step Orc.nothing 300 ?_; simp -implicitDefEqProofs only [BB,seval,← decide_not,okind,vpre,vpure,intBin,intPre,strBin,strPre,popTo,argSlots,fldV,fldAV,subCells,idxVV,idxAAV,idxSV,sliceV,sliceSV,boundV,szIs,storeOp,storeS,setRowV,eff,extV,buildV,splice,eqSV,fitsL,eqCells,eqCell,minmaxV,capV,binBV,nilCheckV,bytesV,V.cells,V.stays,Orc.nothing])
  refine ⟨_, _, SubStore.refl _, Wk.refl (SubStore.refl _) _, rfl, ?_⟩
  simpa using hB6
theorem nodeF_c {K σ : Store} {id : Nat} {l : List UInt8} (x : Nd) (hk : x.kind = 4) (hs : x.side = 1 ∨ x.side = 2) (hw : inN x.w) (hh : inN x.h) (h : IsB 70 5 K σ id l) (hl : l.length ≤ 900000000) :
    Contract Tryd.prog 33 [.ptr id 0 0, encN x] σ fun r σ' => r = .tup [] ∧ IsB 70 5 K σ' id (l ++ (60 :: (if x.side = 2 then 82 else 76) :: (joinX [x.w, x.h] ++ [62]))) := by
  have hJ := joinX_len (ns := [x.w, x.h]) (by simp [hw, hh])
  refine Contract.of_runs Tryd.func33 e33 k33 (by simp [c33]) ?_
  refine Runs.mix 9 ?_
  rcases hs with hs | hs
  all_goals
    (refine Runs.of_step Orc.nothing 300 ?_; simp -implicitDefEqProofs only [BB,seval,← decide_not,okind,vpre,vpure,intBin,intPre,strBin,strPre,popTo,argSlots,fldV,fldAV,subCells,idxVV,idxAAV,idxSV,sliceV,sliceSV,boundV,szIs,storeOp,storeS,setRowV,eff,extV,buildV,splice,eqSV,fitsL,eqCells,eqCell,minmaxV,capV,binBV,nilCheckV,bytesV,V.cells,V.stays,Orc.nothing,c33,encN,Nd.cells,encI])
    refine effR_new fun id1 σ1 s1 r1 f1 => ?_
    simp -implicitDefEqProofs only [BB,seval,← decide_not,okind,vpre,vpure,intBin,intPre,strBin,strPre,popTo,argSlots,fldV,fldAV,subCells,idxVV,idxAAV,idxSV,sliceV,sliceSV,boundV,szIs,storeOp,storeS,setRowV,eff,extV,buildV,splice,eqSV,fitsL,eqCells,eqCell,minmaxV,capV,binBV,nilCheckV,bytesV,V.cells,V.stays,r1,hk,hs]
    refine Runs.call rfl rfl rfl (wstr_c btW _ (h.grow s1 f1 r1) (by simp only [List.length_append,List.length_cons,List.length_nil]; omega)) ?_
    rintro r σ2 ⟨rfl, hB1⟩
    have hr2 := hB1.sub _ _ upd_same
    have hB2 := hB1.less ((SubStore.refl K).upd_new (h.sub.none f1))
    (refine Runs.of_step Orc.nothing 300 ?_; simp -implicitDefEqProofs only [BB,seval,← decide_not,okind,vpre,vpure,intBin,intPre,strBin,strPre,popTo,argSlots,fldV,fldAV,subCells,idxVV,idxAAV,idxSV,sliceV,sliceSV,boundV,szIs,storeOp,storeS,setRowV,eff,extV,buildV,splice,eqSV,fitsL,eqCells,eqCell,minmaxV,capV,binBV,nilCheckV,bytesV,V.cells,V.stays,Orc.nothing,hr2])
    refine effR_new fun id3 σ3 s3 r3 f3 => ?_
    simp -implicitDefEqProofs only [BB,seval,← decide_not,okind,vpre,vpure,intBin,intPre,strBin,strPre,popTo,argSlots,fldV,fldAV,subCells,idxVV,idxAAV,idxSV,sliceV,sliceSV,boundV,szIs,storeOp,storeS,setRowV,eff,extV,buildV,splice,eqSV,fitsL,eqCells,eqCell,minmaxV,capV,binBV,nilCheckV,bytesV,V.cells,V.stays,r3,hr2]
    refine Runs.call rfl rfl rfl (numbers_c [x.w, x.h] (by simp [hw, hh]) (hB2.grow s3 f3 r3) rfl (by rw [upd_same]; rfl) (by simp only [List.length_append,List.length_cons,List.length_nil]; omega)) ?_
    rintro r σ4 ⟨rfl, hB4⟩
    have hB5 := hB4.less ((SubStore.refl K).upd_new (hB2.sub.none f3))
    (refine Runs.of_step Orc.nothing 300 ?_; simp -implicitDefEqProofs only [BB,seval,← decide_not,okind,vpre,vpure,intBin,intPre,strBin,strPre,popTo,argSlots,fldV,fldAV,subCells,idxVV,idxAAV,idxSV,sliceV,sliceSV,boundV,szIs,storeOp,storeS,setRowV,eff,extV,buildV,splice,eqSV,fitsL,eqCells,eqCell,minmaxV,capV,binBV,nilCheckV,bytesV,V.cells,V.stays,Orc.nothing])
    refine Runs.call rfl rfl rfl (wbyte_c btW 62 62 rfl hB5 (by simp only [List.length_append,List.length_cons,List.length_nil] at hJ ⊢; omega)) ?_
    rintro r σ6 ⟨rfl, hB6⟩
    (refine Runs.of_step Orc.nothing 300 ?_; simp -implicitDefEqProofs only [BB,seval,← decide_not,okind,vpre,vpure,intBin,intPre,strBin,strPre,popTo,argSlots,fldV,fldAV,subCells,idxVV,idxAAV,idxSV,sliceV,sliceSV,boundV,szIs,storeOp,storeS,setRowV,eff,extV,buildV,splice,eqSV,fitsL,eqCells,eqCell,minmaxV,capV,binBV,nilCheckV,bytesV,V.cells,V.stays,Orc.nothing])
    refine ⟨_, _, SubStore.refl _, Wk.refl (SubStore.refl _) _, rfl, ?_⟩
    simpa [hs] using hB6
theorem nodeT_c {K σ : Store} {id : Nat} {l : List UInt8} (x : Nd) (hk : x.kind = 2) (hn : ∀ n ∈ x.line :: x.space :: x.words, inN n) (hm : x.words.length ≤ 100000000) (h : IsB 70 5 K σ id l) (hl : l.length + 14 * x.words.length ≤ 900000000) :
    Contract Tryd.prog 33 [.ptr id 0 0, encN x] σ fun r σ' => r = .tup [] ∧ IsB 70 5 K σ' id (l ++ (40 :: (joinX (x.line :: x.space :: x.words) ++ [41]))) := by
  have hJ := joinX_len hn
  refine Contract.of_runs Tryd.func33 e33 k33 (by simp [c33]) ?_
  refine Runs.mix 9 ?_
  (refine Runs.of_step Orc.nothing 300 ?_; simp -implicitDefEqProofs only [BB,seval,← decide_not,okind,vpre,vpure,intBin,intPre,strBin,strPre,popTo,argSlots,fldV,fldAV,subCells,idxVV,idxAAV,idxSV,sliceV,sliceSV,boundV,szIs,storeOp,storeS,setRowV,eff,extV,buildV,splice,eqSV,fitsL,eqCells,eqCell,minmaxV,capV,binBV,nilCheckV,bytesV,V.cells,V.stays,Orc.nothing,c33,encN,Nd.cells,encI])
  refine effR_new fun id1 σ1 s1 r1 f1 => ?_
  simp -implicitDefEqProofs only [BB,seval,← decide_not,okind,vpre,vpure,intBin,intPre,strBin,strPre,popTo,argSlots,fldV,fldAV,subCells,idxVV,idxAAV,idxSV,sliceV,sliceSV,boundV,szIs,storeOp,storeS,setRowV,eff,extV,buildV,splice,eqSV,fitsL,eqCells,eqCell,minmaxV,capV,binBV,nilCheckV,bytesV,V.cells,V.stays,r1,hk]
  refine Runs.call rfl rfl rfl (wbyte_c btW 40 40 rfl (h.grow s1 f1 r1) (by omega)) ?_
  rintro r σ2 ⟨rfl, hB1⟩
  have hr2 := hB1.sub _ _ upd_same
  have hB2 := hB1.less ((SubStore.refl K).upd_new (h.sub.none f1))
  (refine Runs.of_step Orc.nothing 300 ?_; simp -implicitDefEqProofs only [BB,seval,← decide_not,okind,vpre,vpure,intBin,intPre,strBin,strPre,popTo,argSlots,fldV,fldAV,subCells,idxVV,idxAAV,idxSV,sliceV,sliceSV,boundV,szIs,storeOp,storeS,setRowV,eff,extV,buildV,splice,eqSV,fitsL,eqCells,eqCell,minmaxV,capV,binBV,nilCheckV,bytesV,V.cells,V.stays,Orc.nothing,hr2])
  refine effR_new fun id3 σ3 s3 r3 f3 => ?_
  have hr3 := s3 _ _ hr2
  have hO : OutV σ2 σ3 3 1 (.own id3 0 2) [vI x.line, vI x.space] := .inr ⟨id3, rfl, r3, f3⟩
  obtain ⟨idA, hda, hdel⟩ := hO.dst (SubStore.refl σ3)
  have hsr : srcRows σ3 1 (.sl 1 (x.words.map vI)) = some (x.words.map vI) := rfl
  have hb2 : (2 + x.words.length) * 9 ≤ 140737488355328 := by omega
  simp -implicitDefEqProofs only [BB,seval,← decide_not,okind,vpre,vpure,intBin,intPre,strBin,strPre,popTo,argSlots,fldV,fldAV,subCells,idxVV,idxAAV,idxSV,sliceV,sliceSV,boundV,szIs,storeOp,storeS,setRowV,eff,extV,buildV,splice,eqSV,fitsL,eqCells,eqCell,minmaxV,capV,binBV,nilCheckV,bytesV,V.cells,V.stays,r3,hr3,hda,hsr,List.length_map,hb2]
  refine effR_put fun id4 σ4 s4 r4 f4 => ?_
  have k4 := (hdel _ (SubStore.refl _) σ3 s3).trans s4
  have f4' := s3.none f4
  simp -implicitDefEqProofs only [BB,seval,← decide_not,okind,vpre,vpure,intBin,intPre,strBin,strPre,popTo,argSlots,fldV,fldAV,subCells,idxVV,idxAAV,idxSV,sliceV,sliceSV,boundV,szIs,storeOp,storeS,setRowV,eff,extV,buildV,splice,eqSV,fitsL,eqCells,eqCell,minmaxV,capV,binBV,nilCheckV,bytesV,V.cells,V.stays]
  refine Runs.call rfl rfl rfl (numbers_c (x.line :: x.space :: x.words) hn (hB2.grow k4 f4' r4) (by simp only [List.length_cons]; omega) (by rw [upd_same]; simp) (by simp only [List.length_append,List.length_cons,List.length_nil]; omega)) ?_
  rintro r σ5 ⟨rfl, hB5⟩
  have hB6 := hB5.less ((SubStore.refl K).upd_new (hB2.sub.none f4'))
  (refine Runs.of_step Orc.nothing 300 ?_; simp -implicitDefEqProofs only [BB,seval,← decide_not,okind,vpre,vpure,intBin,intPre,strBin,strPre,popTo,argSlots,fldV,fldAV,subCells,idxVV,idxAAV,idxSV,sliceV,sliceSV,boundV,szIs,storeOp,storeS,setRowV,eff,extV,buildV,splice,eqSV,fitsL,eqCells,eqCell,minmaxV,capV,binBV,nilCheckV,bytesV,V.cells,V.stays,Orc.nothing])
  refine Runs.call rfl rfl rfl (wbyte_c btW 41 41 rfl hB6 (by simp only [List.length_append,List.length_cons,List.length_nil] at hJ ⊢; omega)) ?_
  rintro r σ7 ⟨rfl, hB7⟩
  (refine Runs.of_step Orc.nothing 300 ?_; simp -implicitDefEqProofs only [BB,seval,← decide_not,okind,vpre,vpure,intBin,intPre,strBin,strPre,popTo,argSlots,fldV,fldAV,subCells,idxVV,idxAAV,idxSV,sliceV,sliceSV,boundV,szIs,storeOp,storeS,setRowV,eff,extV,buildV,splice,eqSV,fitsL,eqCells,eqCell,minmaxV,capV,binBV,nilCheckV,bytesV,V.cells,V.stays,Orc.nothing])
  refine ⟨_, _, SubStore.refl _, Wk.refl (SubStore.refl _) _, rfl, ?_⟩
  simpa using hB7
end Go.Vc
namespace Go.Vc
open Go.Proofs
theorem wnode_c {K σ : Store} {id : Nat} {l : List UInt8} (y : Shp) (hy : ∀ s i, y ≠ .block s i) (hok : okS y) (h : IsB 70 5 K σ id l) (hl : l.length + costs (toldS y) ≤ 900000000) :
    Contract Tryd.prog 33 [.ptr id 0 0, encN (ndS y)] σ fun r σ' => r = .tup [] ∧ IsB 70 5 K σ' id (l ++ txtS y) := by
  cases y
  · rename_i w h'
    exact nodeB_c (ndS (.box w h')) rfl (inN_of hok.1) (inN_of hok.2) h (by omega)
  · exact absurd rfl (hy _ _)
  · rename_i ns
    obtain ⟨a, b, c, r, rfl, ha, hb, hc, hr⟩ := hok
    have hin := (okT_in (ns := a :: b :: c :: r) ⟨a, b, c, r, rfl, ha, hb, hc, hr⟩).1
    simp only [toldS,costs,costN,ndS,List.drop_succ_cons,List.drop_zero] at hl
    exact nodeT_c (ndS (.text (a :: b :: c :: r))) rfl hin (by simp only [ndS,List.drop_succ_cons,List.drop_zero]; omega) h (by simp only [ndS,List.drop_succ_cons,List.drop_zero]; omega)
  · rename_i w h' d
    have := nodeF_c (ndS (.float w h' d)) rfl hok.2.2 (inN_of hok.1) (inN_of hok.2.1) h (by omega)
    exact this
theorem toldS_one {y : Shp} (h : ∀ s i, y ≠ .block s i) : toldS y = [ndS y] ∧ ((ndS y).kind = 1) = False ∧ (ndS y).size = 1 := by
  cases y
  · simp [toldS, ndS]
  · exact absurd rfl (h _ _)
  · simp [toldS, ndS]
  · simp [toldS, ndS]
theorem sliceV_fromA {σ : Store} {l : List Nd} {s : Int} (h1 : 0 ≤ s) (h2 : s ≤ l.length) :
    sliceV σ 20 (encNs l) (some (.int .i64 s)) none none = some (encNs (l.drop s.toNat)) := by
  simp only [encNs,sliceV,boundV,List.length_map]
  rw [if_pos ⟨h1, h2, Int.le_refl _, Int.le_refl _, trivial⟩]
  simp only [V.sl.injEq,Option.some.injEq,true_and]
  rw [List.map_drop, List.take_of_length_le]
  simp
theorem sliceV_encA {σ : Store} {l : List Nd} {s e : Int} (h1 : 0 ≤ s) (h2 : s ≤ e) (h3 : e ≤ l.length) :
    sliceV σ 20 (encNs l) (some (.int .i64 s)) (some (.int .i64 e)) none = some (encNs ((l.drop s.toNat).take (e.toNat - s.toNat))) := by
  simp only [encNs,sliceV,boundV,List.length_map]
  rw [if_pos ⟨h1, h2, h3, Int.le_refl _, trivial⟩]
  simp [List.map_take, List.map_drop]
theorem txtL_append (e : List UInt8) (a b : List Shp) : txtL e (a ++ b) = txtL e a ++ txtL e b := by
  induction a with
  | nil => simp [txtL]
  | cons x a ih => simp [txtL, ih]
theorem okSs_left {a b : List Shp} (h : okSs (a ++ b)) : okSs a := by
  induction a with
  | nil => trivial
  | cons x a ih => exact ⟨h.1, ih h.2⟩
theorem okSs_right {a b : List Shp} (h : okSs (a ++ b)) : okSs b := by
  induction a with
  | nil => exact h
  | cons x a ih => exact ih h.2
set_option maxRecDepth 100000 in
theorem wall_c {id idf : Nat} {ef : TypeId} : ∀ (m : Nat) (K : Store), K idf = some ⟨ef, 1, [.fn 30 [.ptr id 0 0, .ptr idf 0 0]]⟩ → ∀ (xs : List Shp), (toldL xs).length < m → okSs xs → ∀ (e b : List UInt8) (σ : Store), e.length ≤ 1 → b.length + costs (toldL xs) ≤ 800000000 →
    (toldL xs).length ≤ 100000000 → IsB 70 5 K σ id b →
    Contract Tryd.prog 30 [encNs (toldL xs), .str e, .ptr id 0 0, .ptr idf 0 0] σ fun r σ' => r = .tup [] ∧ IsB 70 5 K σ' id (b ++ txtL e xs) ∧ (xs = [] → σ' = σ) := by
  intro m
  induction m with
  | zero => intro K hf xs hm; omega
  | succ m ih => ?_
  intro K hf xs hm hok e b σ he hb hbig h
  refine Contract.of_runs Tryd.func30 e30 k30 (by simp [c30]) ?_
  refine Runs.mix 6 ?_
  (refine Runs.of_step Orc.nothing 300 ?_; simp -implicitDefEqProofs only [BB,seval,← decide_not,okind,vpre,vpure,intBin,intPre,strBin,strPre,popTo,argSlots,fldV,fldAV,subCells,idxVV,idxAAV,idxSV,sliceV,sliceSV,boundV,szIs,storeOp,storeS,setRowV,eff,extV,buildV,splice,eqSV,fitsL,eqCells,eqCell,minmaxV,capV,binBV,nilCheckV,bytesV,V.cells,V.stays,Orc.nothing,c30])
  refine Runs.loop (fun q st => ∃ dn rs : List Shp, xs = dn ++ rs ∧ q = rs.length ∧ IsB 70 5 K st.σ id (b ++ txtL e dn) ∧ (dn = [] → st.σ = σ) ∧ st.s 0 = encNs (toldL rs) ∧ st.s 1 = .str e ∧ st.s 2 = .ptr id 0 0 ∧ st.s 3 = .ptr idf 0 0) xs.length ?_ ?_
  · exact ⟨[], xs, rfl, rfl, by simpa [txtL] using h, fun _ => rfl, rfl, rfl, rfl, rfl⟩
  rintro q ⟨S, σ1⟩ ⟨dn, rs, rfl, rfl, hB, hsame, h0, h1, h2, h3⟩
  simp only at h0 h1 h2 h3 hB hsame
  refine Runs.mix 6 ?_
  cases rs with
  | nil =>
    (refine Runs.of_step Orc.nothing 300 ?_; simp -implicitDefEqProofs only [BB,seval,← decide_not,okind,vpre,vpure,intBin,intPre,strBin,strPre,popTo,argSlots,fldV,fldAV,subCells,idxVV,idxAAV,idxSV,sliceV,sliceSV,boundV,szIs,storeOp,storeS,setRowV,eff,extV,buildV,splice,eqSV,fitsL,eqCells,eqCell,minmaxV,capV,binBV,nilCheckV,bytesV,V.cells,V.stays,Orc.nothing,h0,h1,h2,h3,toldL,encNs,lenV_sl])
    refine ⟨_, _, SubStore.refl _, Wk.refl (SubStore.refl _) _, rfl, by simpa using hB, fun e => hsame (by simpa using e)⟩
  | cons y rs =>
    obtain ⟨hoky, hokr⟩ := okSs_right hok
    have hcst := hb
    rw [toldL_append, toldL, costs_app, costs_app] at hcst
    have hdl := txtL_len dn (okSs_left hok) e he
    have hbig' := hbig
    rw [toldL_append, toldL, List.length_append, List.length_append] at hbig'
    have hidf := hB.sub _ _ hf
    have hnext : dn ++ y :: rs = (dn ++ [y]) ++ rs := by simp
    have htxt : txtL e (dn ++ [y]) = txtL e dn ++ (txtS y ++ e) := by rw [txtL_append]; simp [txtL]
    by_cases hy : ∃ s i, y = .block s i
    · obtain ⟨s, inner, rfl⟩ := hy
      have hL : toldL (.block s inner :: rs) = { ndS (.block s inner) with size := 1 + ((toldL inner).length : Int) } :: (toldL inner ++ toldL rs) := by rw [toldL, toldS]; rfl
      have htl := attX_len (okL_in hoky.1.2) 12 0
      have hcin : 400 + costs (toldL inner) ≤ costs (toldS (.block s inner)) := by simp [toldS, costs, costN]
      have hli : (toldL inner).length + 1 ≤ (toldS (.block s inner)).length := by simp [toldS]
      have htin := txtL_len inner hoky.2 [] (by simp)
      have hmi : (toldL inner).length < m := by rw [toldL_append, toldL, List.length_append, List.length_append] at hm; omega
      rw [hL] at h0
      have hbegin : ∀ (v : V), v = .ptr id 0 0 → ∀ (K σ : Store) (l : List UInt8), IsB 70 5 K σ id l → l.length ≤ 900000000 - 1000 → Contract Tryd.prog 31 [v, .agg (styL s).cells] σ fun r σ' => r = .tup [] ∧ IsB 70 5 K σ' id (l ++ (91 :: attX s 12 0)) := fun v hv K σ l h hl => by
        rw [hv, ← styL_cells hoky.1.1]; exact begin_c s hoky.1.1 (okL_in hoky.1.2) h hl
      have t4 : styL s = ({ ndS (.block s inner) with size := 1 + ((toldL inner).length : Int) } : Nd).st := rfl
      have t3 : ({ ndS (.block s inner) with size := 1 + ((toldL inner).length : Int) } : Nd).size = 1 + ((toldL inner).length : Int) := rfl
      have t2 : (({ ndS (.block s inner) with size := 1 + ((toldL inner).length : Int) } : Nd).kind = 1) = True := eq_true rfl
      rw [t4] at hbegin
      clear t4
      generalize ({ ndS (.block s inner) with size := 1 + ((toldL inner).length : Int) } : Nd) = x at *
      have hidx : ∀ σ, idxAV σ 20 (encNs (x :: (toldL inner ++ toldL rs))) (.int .i64 0) = some (.rp (.agg x.cells)) := fun σ => idxAV_encNs (i := 0) (by simp)
      have hlen : ((((toldL inner ++ toldL rs).length + 1 : Nat) : Int) > 0) = True := eq_true (by omega)
      have hsl : ∀ σ, sliceV σ 20 (encNs (x :: (toldL inner ++ toldL rs))) (some (.int .i64 1)) (some (.int .i64 x.size)) none = some (encNs (toldL inner)) := fun σ => by
        rw [sliceV_encA (by omega) (by omega) (by rw [t3]; simp; omega), t3]
        rw [show (1 + ((toldL inner).length : Int)).toNat - (1 : Int).toNat = (toldL inner).length by omega]
        simp
      have hsf : ∀ σ, sliceV σ 20 (encNs (x :: (toldL inner ++ toldL rs))) (some (.int .i64 x.size)) none none = some (encNs (toldL rs)) := fun σ => by
        rw [sliceV_fromA (by omega) (by rw [t3]; simp; omega), t3]
        rw [show (1 + ((toldL inner).length : Int)).toNat = (toldL inner).length + 1 by omega]
        simp
      generalize toldL inner ++ toldL rs = tl at *
      (refine Runs.of_step Orc.nothing 300 ?_; simp -implicitDefEqProofs only [BB,seval,← decide_not,okind,vpre,vpure,intBin,intPre,strBin,strPre,popTo,argSlots,fldV,fldAV,subCells,idxVV,idxAAV,idxSV,sliceSV,boundV,szIs,storeOp,storeS,setRowV,eff,extV,buildV,splice,eqSV,fitsL,eqCells,eqCell,minmaxV,capV,binBV,nilCheckV,bytesV,V.cells,V.stays,Orc.nothing,h0,h1,h2,h3,lenV_encNs,hlen,hidx,loadV_rp_node,encN,Nd.cells,encI])
      refine effR_new fun id6 σ6 s6 r6 f6 => ?_
      have hne : idf ≠ id6 := ne_new hidf f6
      simp -implicitDefEqProofs only [BB,seval,← decide_not,okind,vpre,vpure,intBin,intPre,strBin,strPre,popTo,argSlots,fldV,fldAV,subCells,idxVV,idxAAV,idxSV,sliceSV,boundV,szIs,storeOp,storeS,setRowV,eff,extV,buildV,splice,eqSV,fitsL,eqCells,eqCell,minmaxV,capV,binBV,nilCheckV,bytesV,V.cells,V.stays,r6,h0,h1,h2,h3,t2]
      refine Runs.call rfl rfl rfl (hbegin _ h2 _ _ _ (hB.grow (s6.updK f6) f6 upd_same) (by simp only [List.length_append]; omega)) ?_
      rintro r σ7 ⟨rfl, hB7⟩
      have hr7 := hB7.sub _ _ upd_same
      have hf7 := hB7.sub idf _ (by rw [upd_ne hne]; exact hf)
      (refine Runs.of_step Orc.nothing 300 ?_; simp -implicitDefEqProofs only [BB,seval,← decide_not,okind,vpre,vpure,intBin,intPre,strBin,strPre,popTo,argSlots,fldV,fldAV,subCells,idxVV,idxAAV,idxSV,sliceSV,boundV,szIs,storeOp,storeS,setRowV,eff,extV,buildV,splice,eqSV,fitsL,eqCells,eqCell,minmaxV,capV,binBV,nilCheckV,bytesV,V.cells,V.stays,Orc.nothing,hr7,hf7,h0,h1,h2,h3,hsl])
      refine Runs.call rfl rfl rfl (ih _ (by rw [upd_ne hne]; exact hf) inner hmi hoky.2 [] _ _ (by simp) (by simp only [List.length_append,List.length_cons]; omega) (by omega) hB7) ?_
      rintro r σ8 ⟨rfl, hB8, -⟩
      (refine Runs.of_step Orc.nothing 300 ?_; simp -implicitDefEqProofs only [BB,seval,← decide_not,okind,vpre,vpure,intBin,intPre,strBin,strPre,popTo,argSlots,fldV,fldAV,subCells,idxVV,idxAAV,idxSV,sliceSV,boundV,szIs,storeOp,storeS,setRowV,eff,extV,buildV,splice,eqSV,fitsL,eqCells,eqCell,minmaxV,capV,binBV,nilCheckV,bytesV,V.cells,V.stays,Orc.nothing,h0,h1,h2,h3])
      refine Runs.call rfl rfl rfl (wbyte_c btW 93 93 rfl hB8 (by simp only [List.length_append,List.length_cons]; omega)) ?_
      rintro r σ9 ⟨rfl, hB9⟩
      (refine Runs.of_step Orc.nothing 300 ?_; simp -implicitDefEqProofs only [BB,seval,← decide_not,okind,vpre,vpure,intBin,intPre,strBin,strPre,popTo,argSlots,fldV,fldAV,subCells,idxVV,idxAAV,idxSV,sliceSV,boundV,szIs,storeOp,storeS,setRowV,eff,extV,buildV,splice,eqSV,fitsL,eqCells,eqCell,minmaxV,capV,binBV,nilCheckV,bytesV,V.cells,V.stays,Orc.nothing,h0,h1,h2,h3])
      refine Runs.call rfl rfl rfl (wstr_c btW e hB9 (by simp only [List.length_append,List.length_cons,List.length_nil]; omega)) ?_
      rintro r σ10 ⟨rfl, hB10⟩
      have hr10 := hB10.sub _ _ upd_same
      have hB11 := hB10.less ((SubStore.refl K).upd_new (hB.sub.none f6))
      (refine Runs.of_step Orc.nothing 300 ?_; simp -implicitDefEqProofs only [BB,seval,← decide_not,okind,vpre,vpure,intBin,intPre,strBin,strPre,popTo,argSlots,fldV,fldAV,subCells,idxVV,idxAAV,idxSV,sliceSV,boundV,szIs,storeOp,storeS,setRowV,eff,extV,buildV,splice,eqSV,fitsL,eqCells,eqCell,minmaxV,capV,binBV,nilCheckV,bytesV,V.cells,V.stays,Orc.nothing,hr10,h0,h1,h2,h3,hsf])
      refine ⟨_, Nat.lt_succ_self _, dn ++ [.block s inner], rs, hnext, rfl, ?_, by simp, by simp⟩
      rw [htxt]; simpa [txtS] using hB11
    · have hy' : ∀ s i, y ≠ .block s i := fun s i e => hy ⟨s, i, e⟩
      obtain ⟨t1, t2, t3⟩ := toldS_one hy'
      have hL : toldL (y :: rs) = ndS y :: toldL rs := by rw [toldL, t1]; rfl
      have hnode : ∀ (v : V), v = .ptr id 0 0 → ∀ (K σ : Store) (l : List UInt8), IsB 70 5 K σ id l → l.length + costs (toldS y) ≤ 900000000 → Contract Tryd.prog 33 [v, encN (ndS y)] σ fun r σ' => r = .tup [] ∧ IsB 70 5 K σ' id (l ++ txtS y) := fun v hv K σ l h hl => by rw [hv]; exact wnode_c y hy' hoky h hl
      have htl := txtS_len y hoky
      rw [hL] at h0
      have hidx : ∀ σ, idxAV σ 20 (encNs (ndS y :: toldL rs)) (.int .i64 0) = some (.rp (.agg (ndS y).cells)) := fun σ => idxAV_encNs (i := 0) (by simp)
      have hlen : ((((toldL rs).length + 1 : Nat) : Int) > 0) = True := eq_true (by omega)
      have hsf : ∀ σ, sliceV σ 20 (encNs (ndS y :: toldL rs)) (some (.int .i64 1)) none none = some (encNs (toldL rs)) := fun σ => by rw [sliceV_fromA (by omega) (by simp; omega)]; rfl
      generalize ndS y = x at *
      (refine Runs.of_step Orc.nothing 300 ?_; simp -implicitDefEqProofs only [BB,seval,← decide_not,okind,vpre,vpure,intBin,intPre,strBin,strPre,popTo,argSlots,fldV,fldAV,subCells,idxVV,idxAAV,idxSV,sliceSV,boundV,szIs,storeOp,storeS,setRowV,eff,extV,buildV,splice,eqSV,fitsL,eqCells,eqCell,minmaxV,capV,binBV,nilCheckV,bytesV,V.cells,V.stays,Orc.nothing,h0,h1,h2,h3,lenV_encNs,hlen,hidx,loadV_rp_node,encN,Nd.cells,encI])
      refine effR_new fun id6 σ6 s6 r6 f6 => ?_
      simp -implicitDefEqProofs only [BB,seval,← decide_not,okind,vpre,vpure,intBin,intPre,strBin,strPre,popTo,argSlots,fldV,fldAV,subCells,idxVV,idxAAV,idxSV,sliceSV,boundV,szIs,storeOp,storeS,setRowV,eff,extV,buildV,splice,eqSV,fitsL,eqCells,eqCell,minmaxV,capV,binBV,nilCheckV,bytesV,V.cells,V.stays,r6,h0,h1,h2,h3,t2]
      refine Runs.call rfl rfl rfl (hnode _ h2 _ _ _ (hB.grow (s6.updK f6) f6 upd_same) (by simp only [List.length_append]; omega)) ?_
      rintro r σ7 ⟨rfl, hB7⟩
      (refine Runs.of_step Orc.nothing 300 ?_; simp -implicitDefEqProofs only [BB,seval,← decide_not,okind,vpre,vpure,intBin,intPre,strBin,strPre,popTo,argSlots,fldV,fldAV,subCells,idxVV,idxAAV,idxSV,sliceSV,boundV,szIs,storeOp,storeS,setRowV,eff,extV,buildV,splice,eqSV,fitsL,eqCells,eqCell,minmaxV,capV,binBV,nilCheckV,bytesV,V.cells,V.stays,Orc.nothing,h0,h1,h2,h3])
      refine Runs.call rfl rfl rfl (wstr_c btW e hB7 (by simp only [List.length_append]; omega)) ?_
      rintro r σ8 ⟨rfl, hB8⟩
      have hr8 := hB8.sub _ _ upd_same
      have hB9 := hB8.less ((SubStore.refl K).upd_new (hB.sub.none f6))
      (refine Runs.of_step Orc.nothing 300 ?_; simp -implicitDefEqProofs only [BB,seval,← decide_not,okind,vpre,vpure,intBin,intPre,strBin,strPre,popTo,argSlots,fldV,fldAV,subCells,idxVV,idxAAV,idxSV,sliceSV,boundV,szIs,storeOp,storeS,setRowV,eff,extV,buildV,splice,eqSV,fitsL,eqCells,eqCell,minmaxV,capV,binBV,nilCheckV,bytesV,V.cells,V.stays,Orc.nothing,hr8,h0,h1,h2,h3,t3,hsf])
      refine ⟨_, Nat.lt_succ_self _, dn ++ [y], rs, hnext, rfl, ?_, by simp, by simp⟩
      rw [htxt]; simpa using hB9
end Go.Vc
namespace Go.Vc
def shpN (x : Nd) : Shp := if x.kind = 2 then .text (x.line :: x.space :: x.words) else if x.kind = 3 then .box x.w x.h else .float x.w x.h x.side
def styI (s : Sty) : List Int := [s.top, s.bottom, s.padTop, s.padBottom, s.inset, s.orphans, s.widows, s.head, s.before, s.after, s.inside, s.clear]
theorem styI_ok {s : Sty} (h : s.ok = true) : okL (styI s) := by
  have hMX : MX = 1099511627776 := rfl
  simp [Sty.ok, isFrom, mx] at h
  intro k v hk
  have hk12 : k < 12 := (List.getElem?_eq_some_iff.1 hk).1
  match k, hk12 with
  | 0, _ | 1, _ | 2, _ | 3, _ | 4, _ | 5, _ | 6, _ | 7, _ | 8, _ | 9, _ | 10, _ | 11, _ =>
    simp only [styI,List.getElem?_cons_zero,List.getElem?_cons_succ,Option.some.injEq] at hk
    subst hk
    simp [loK, hiK]
    omega
theorem isFrom_iff {n a b : Int} : isFrom n a b = true ↔ a ≤ n ∧ n ≤ b := by unfold isFrom; simp
theorem mxMX : mx = MX := rfl
theorem shpN_ok {x : Nd} (h : x.ok = true) (h1 : x.kind ≠ 1) (hs : x.size = 1) : toldS (shpN x) = [x] ∧ okS (shpN x) := by
  have hMX : MX = 1099511627776 := rfl
  unfold Nd.ok at h
  rw [if_neg h1] at h
  split at h
  · cases h
  · rename_i hst
    have hst : x.st = Sty.zero := Classical.byContradiction hst
    obtain ⟨kind, size, st, line, space, words, side, w, hh⟩ := x
    simp only at h h1 hs hst
    subst hst hs
    split at h
    · rename_i h2
      simp only [Bool.and_eq_true,decide_eq_true_eq,isFrom_iff,mxMX] at h
      obtain ⟨⟨⟨⟨⟨⟨a1, a2⟩, a3⟩, a4⟩, a5⟩, a6⟩, a7⟩ := h
      subst h2 a5 a6 a7
      refine ⟨rfl, ?_⟩
      show okS (.text (line :: space :: words))
      rw [okS]
      cases words with
      | nil => simp at a2
      | cons c r =>
        have hall := List.all_eq_true.1 a1
        have hc := isFrom_iff.1 (hall c (by simp))
        exact ⟨line, space, c, r, rfl, a3, a4, hc, fun n hn => isFrom_iff.1 (hall n (by simp [hn]))⟩
    · rename_i h2
      simp only [Bool.and_eq_true,Bool.or_eq_true,decide_eq_true_eq,isFrom_iff,mxMX] at h
      obtain ⟨⟨⟨⟨⟨a1, a2⟩, a3⟩, a4⟩, a5⟩, a6⟩ := h
      have hw : words = [] := List.length_eq_zero_iff.1 a3
      subst a1 a2 hw
      rcases a6 with ⟨k3, rfl⟩ | ⟨k4, hsd⟩
      · subst k3
        refine ⟨rfl, ?_⟩
        show okS (.box w hh)
        rw [okS]; exact ⟨a4, a5⟩
      · subst k4
        refine ⟨rfl, ?_⟩
        show okS (.float w hh side)
        rw [okS]; exact ⟨a4, a5, by omega⟩
theorem blk_ok {x : Nd} (h : x.ok = true) (h1 : x.kind = 1) (inner : List Shp) (hs : x.size = 1 + ((toldL inner).length : Int)) (hi : okSs inner) : toldS (.block (styI x.st) inner) = x :: toldL inner ∧ okS (.block (styI x.st) inner) := by
  unfold Nd.ok at h
  rw [if_pos h1] at h
  simp only [Bool.and_eq_true,decide_eq_true_eq] at h
  obtain ⟨⟨⟨⟨⟨⟨a1, a2⟩, a3⟩, a4⟩, a5⟩, a6⟩, a7⟩ := h
  obtain ⟨kind, size, st, line, space, words, side, w, hh⟩ := x
  simp only at a1 a2 a3 a4 a5 a6 a7 h1 hs
  have hw : words = [] := List.length_eq_zero_iff.1 a4
  subst a2 a3 hw a5 a6 a7 h1 hs
  refine ⟨by rw [toldS]; rfl, ?_⟩
  rw [okS]
  exact ⟨⟨rfl, styI_ok a1⟩, hi⟩
theorem shapes_of' : ∀ (m : Nat) (l : List Nd), l.length ≤ m → l.all Nd.ok = true → rowsB l 0 l.length = true → ∃ xs, toldL xs = l ∧ okSs xs := by
  intro m
  induction m with
  | zero =>
    intro l hm _ _
    have : l = [] := List.length_eq_zero_iff.1 (by omega)
    subst this
    exact ⟨[], rfl, trivial⟩
  | succ m ih =>
    intro l hm hok hr
    cases l with
    | nil => exact ⟨[], rfl, trivial⟩
    | cons x l =>
      simp only [List.length_cons] at hm hr
      rw [rowsB, dif_pos (by omega)] at hr
      simp only [List.getElem?_cons_zero] at hr
      split at hr
      · rename_i hx
        simp only [Bool.and_eq_true,Bool.or_eq_true,decide_eq_true_eq] at hr
        obtain ⟨⟨hk, h1⟩, h2⟩ := hr
        simp only [Nat.zero_add] at h1 h2
        rw [List.all_cons, Bool.and_eq_true] at hok
        obtain ⟨k, hk1⟩ : ∃ k : Nat, x.size = 1 + (k : Int) := ⟨(x.size - 1).toNat, by omega⟩
        have hkl : k ≤ l.length := by omega
        have e1 : x.size.toNat = 1 + k := by omega
        rw [e1] at h1 h2
        have w1 := rowsB_window (x :: l) 1 k (k + 1) 0 k (by omega) (Nat.le_refl _) (by simp; omega)
        have w2 := rowsB_window (x :: l) (1 + k) (l.length - k) (l.length - k + 1) 0 (l.length - k) (by omega) (Nat.le_refl _) (by simp; omega)
        rw [Nat.add_zero, h1] at w1
        rw [Nat.add_zero, show 1 + k + (l.length - k) = l.length + 1 by omega, h2] at w2
        have d1 : ((x :: l).drop 1).take k = l.take k := rfl
        have d2 : ((x :: l).drop (1 + k)).take (l.length - k) = l.drop k := by
          rw [show 1 + k = k + 1 by omega, List.drop_succ_cons]
          exact List.take_of_length_le (by simp)
        rw [d1] at w1
        rw [d2] at w2
        have hall := List.all_eq_true.1 hok.2
        obtain ⟨ys, y1, y2⟩ := ih (l.drop k) (by simp; omega) (List.all_eq_true.2 fun z hz => hall z (List.mem_of_mem_drop hz)) (by simpa using w2)
        obtain ⟨zs, z1, z2⟩ := ih (l.take k) (by simp; omega) (List.all_eq_true.2 fun z hz => hall z (List.mem_of_mem_take hz)) (by rw [List.length_take, Nat.min_eq_left hkl]; exact w1)
        by_cases hkind : x.kind = 1
        · obtain ⟨b1, b2⟩ := blk_ok hok.1 hkind zs (by rw [z1, List.length_take, Nat.min_eq_left hkl]; exact hk1) z2
          refine ⟨.block (styI x.st) zs :: ys, ?_, by rw [okSs]; exact ⟨b2, y2⟩⟩
          rw [toldL, b1, z1, y1, List.cons_append, List.take_append_drop]
        · have hs1 : x.size = 1 := by
            rcases hk with h | h
            · exact absurd h hkind
            · omega
          have hk0 : k = 0 := by omega
          subst hk0
          obtain ⟨b1, b2⟩ := shpN_ok hok.1 hkind hs1
          refine ⟨shpN x :: ys, ?_, by rw [okSs]; exact ⟨b2, y2⟩⟩
          rw [toldL, b1, y1]; rfl
      · cases hr
theorem shapes_of {l : List Nd} (h : isB l = true) : ∃ xs, toldL xs = l ∧ okSs xs := by
  simp only [isB,Bool.and_eq_true] at h
  exact shapes_of' l.length l (Nat.le_refl _) h.1 h.2
mutual
theorem okS_nodes : ∀ (x : Shp), okS x → ∀ y ∈ toldS x, y.ok = true
  | .box w h, ho, y, hy => by
    rw [okS] at ho
    rw [toldS] at hy
    simp only [List.mem_singleton] at hy
    subst hy
    have hMX : MX = 1099511627776 := rfl
    simp [ndS, Nd.ok, isFrom, mx]; omega
  | .float w h d, ho, y, hy => by
    rw [okS] at ho
    rw [toldS] at hy
    simp only [List.mem_singleton] at hy
    subst hy
    have hMX : MX = 1099511627776 := rfl
    exact float_ok2 w h d (by simp [isFrom, mx]; omega) (by simp [isFrom, mx]; omega) ho.2.2
  | .text ns, ho, y, hy => by
    rw [okS] at ho
    obtain ⟨a, b, c, r, rfl, h1, h2, h3, h4⟩ := ho
    rw [toldS] at hy
    simp only [List.mem_singleton] at hy
    subst hy
    have hMX : MX = 1099511627776 := rfl
    simp only [ndS,List.getD_cons_zero,List.getD_cons_succ,List.drop_succ_cons,List.drop_zero,Nd.ok]
    have h5 : r.all (isFrom · 1 mx) = true := List.all_eq_true.2 fun n hn => by have := h4 n hn; simp [isFrom, mx]; omega
    simp only [List.all_cons,h5,List.length_cons]
    simp [isFrom, mx]; omega
  | .block s inner, ho, y, hy => by
    rw [okS] at ho
    rw [toldS] at hy
    simp only [List.mem_cons] at hy
    rcases hy with rfl | hy
    · rw [ok_size rfl]
      simp [ndS, Nd.ok, styL_ok ho.1.1 ho.1.2]
    · exact okSs_nodes inner ho.2 y hy
theorem okSs_nodes : ∀ (xs : List Shp), okSs xs → ∀ y ∈ toldL xs, y.ok = true
  | [], _, y, hy => by cases hy
  | x :: l, ho, y, hy => by
    rw [okSs] at ho
    rw [toldL, List.mem_append] at hy
    rcases hy with hy | hy
    · exact okS_nodes x ho.1 y hy
    · exact okSs_nodes l ho.2 y hy
end
theorem okSs_isB {xs : List Shp} (h : okSs xs) : isB (toldL xs) = true := isB_told (okSs_nodes xs h)
end Go.Vc
namespace Go.Vc
open Go.Proofs
theorem txtL_nil {xs : List Shp} (h : txtL [10] xs = []) : xs = [] := by
  cases xs with
  | nil => rfl
  | cons x l => simp [txtL] at h
theorem write_c (xs : List Shp) (hok : okSs xs) (hF : Fine (toldL xs)) (hcs : costs (toldL xs) ≤ 800000000) : PFun Tryd.prog 12 [encNs (toldL xs)] (.tup [.str (txtL [10] xs), vI 0]) := fun σ => by
  have hB : isB (toldL xs) = true := okSs_isB hok
  refine Contract.of_runs Tryd.func12 e12 k12 (by simp [c12]) ?_
  refine Runs.mix 6 ?_
  (refine Runs.of_step Orc.nothing 300 ?_; simp -implicitDefEqProofs only [BB,seval,← decide_not,okind,vpre,vpure,intBin,intPre,strBin,strPre,popTo,argSlots,fldV,fldAV,subCells,idxVV,idxAAV,idxSV,sliceV,sliceSV,boundV,szIs,storeOp,storeS,setRowV,eff,extV,buildV,splice,eqSV,fitsL,eqCells,eqCell,minmaxV,capV,binBV,nilCheckV,bytesV,V.cells,V.stays,Orc.nothing,c12])
  refine Runs.pcall rfl rfl rfl (isv_c _ hF _) ?_
  (refine Runs.of_step Orc.nothing 300 ?_; simp -implicitDefEqProofs only [BB,seval,← decide_not,okind,vpre,vpure,intBin,intPre,strBin,strPre,popTo,argSlots,fldV,fldAV,subCells,idxVV,idxAAV,idxSV,sliceV,sliceSV,boundV,szIs,storeOp,storeS,setRowV,eff,extV,buildV,splice,eqSV,fitsL,eqCells,eqCell,minmaxV,capV,binBV,nilCheckV,bytesV,V.cells,V.stays,Orc.nothing,hB])
  refine effR_new fun id4 σ4 s4 r4 f4 => ?_
  simp -implicitDefEqProofs only [BB,seval,← decide_not,okind,vpre,vpure,intBin,intPre,strBin,strPre,popTo,argSlots,fldV,fldAV,subCells,idxVV,idxAAV,idxSV,sliceV,sliceSV,boundV,szIs,storeOp,storeS,setRowV,eff,extV,buildV,splice,eqSV,fitsL,eqCells,eqCell,minmaxV,capV,binBV,nilCheckV,bytesV,V.cells,V.stays,r4]
  refine effR_new fun id5 σ5 s5 r5 f5 => ?_
  have n45 : id4 ≠ id5 := ne_new r4 f5
  simp -implicitDefEqProofs only [BB,seval,← decide_not,okind,vpre,vpure,intBin,intPre,strBin,strPre,popTo,argSlots,fldV,fldAV,subCells,idxVV,idxAAV,idxSV,sliceV,sliceSV,boundV,szIs,storeOp,storeS,setRowV,eff,extV,buildV,splice,eqSV,fitsL,eqCells,eqCell,minmaxV,capV,binBV,nilCheckV,bytesV,V.cells,V.stays,r5]
  have fs5 : σ id5 = none := s4.none f5
  have hK : (upd σ id5 ⟨71, 1, [.fn 30 [.ptr id4 0 0, .ptr id5 0 0]]⟩) id5 = some ⟨71, 1, [.fn 30 [.ptr id4 0 0, .ptr id5 0 0]]⟩ := upd_same
  have hrow : (upd σ5 id5 ⟨71, 1, [.fn 30 [.ptr id4 0 0, .ptr id5 0 0]]⟩) id4 = some (bRow 70 .nilp .nils) := by rw [upd_ne n45]; exact s5 _ _ r4
  have hB0 : IsB 70 5 (upd σ id5 ⟨71, 1, [.fn 30 [.ptr id4 0 0, .ptr id5 0 0]]⟩) (upd σ5 id5 ⟨71, 1, [.fn 30 [.ptr id4 0 0, .ptr id5 0 0]]⟩) id4 [] := IsB.start ((s4.trans s5).upd2) (by rw [upd_ne n45]; exact f4) hrow
  have hlen := hF.1
  refine Runs.call rfl rfl rfl (wall_c _ _ hK xs (Nat.lt_succ_self _) hok [10] [] _ (by simp) (by simpa using hcs) (by omega) hB0) ?_
  rintro r σ6 ⟨rfl, hB6, hsame⟩
  (refine Runs.of_step Orc.nothing 300 ?_; simp -implicitDefEqProofs only [BB,seval,← decide_not,okind,vpre,vpure,intBin,intPre,strBin,strPre,popTo,argSlots,fldV,fldAV,subCells,idxVV,idxAAV,idxSV,sliceV,sliceSV,boundV,szIs,storeOp,storeS,setRowV,eff,extV,buildV,splice,eqSV,fitsL,eqCells,eqCell,minmaxV,capV,binBV,nilCheckV,bytesV,V.cells,V.stays,Orc.nothing])
  refine Runs.call rfl rfl rfl (bstr_c hB6 (fun e => ?_)) ?_
  · have e1 := hsame (txtL_nil (by simpa using e))
    refine ⟨.nilp, ?_⟩
    show σ6 id4 = _
    rw [e1]; exact hrow
  rintro r σ7 ⟨rfl, rfl⟩
  (refine Runs.of_step Orc.nothing 300 ?_; simp -implicitDefEqProofs only [BB,seval,← decide_not,okind,vpre,vpure,intBin,intPre,strBin,strPre,popTo,argSlots,fldV,fldAV,subCells,idxVV,idxAAV,idxSV,sliceV,sliceSV,boundV,szIs,storeOp,storeS,setRowV,eff,extV,buildV,splice,eqSV,fitsL,eqCells,eqCell,minmaxV,capV,binBV,nilCheckV,bytesV,V.cells,V.stays,Orc.nothing])
  exact .pure ((SubStore.refl σ).updK fs5) (by simp)
end Go.Vc
namespace Go.Vc
open Go.Proofs
theorem costs_most {w : Nat} : ∀ (l : List Nd), (∀ x ∈ l, x.words.length ≤ w) → costs l ≤ l.length * (400 + 14 * w)
  | [], _ => by simp [costs]
  | x :: l, h => by
    have h1 := costs_most l (fun y hy => h y (by simp [hy]))
    have h2 := h x (by simp)
    have h3 : (l.length + 1) * (400 + 14 * w) = l.length * (400 + 14 * w) + (400 + 14 * w) := by rw [Nat.add_mul, Nat.one_mul]
    simp only [costs,costN,List.length_cons]
    rw [h3]; omega
theorem vastR_words {l : List Nd} (h : vastR l = false) : l.length ≤ 40 ∧ ∀ x ∈ l, x.words.length ≤ 200 := by
  simp only [vastR,Bool.or_eq_false_iff,decide_eq_false_iff_not] at h
  exact ⟨by omega, fun x hx => by have := wsum_mem hx; omega⟩
theorem okSs_both {a b : List Shp} (ha : okSs a) (hb : okSs b) : okSs (a ++ b) := by
  induction a with
  | nil => exact hb
  | cons x a ih => exact ⟨ha.1, ih ha.2⟩
def WOf (l : List Nd) (s : List UInt8) : Prop := s.length ≤ 400000 ∧ PFun Tryd.prog 12 [encNs l] (.tup [.str s, vI 0])
theorem writeX_c (xs : List Shp) (hok : okSs xs) (hl : (toldL xs).length ≤ 100) (hw : ∀ x ∈ toldL xs, x.words.length ≤ 200) : WOf (toldL xs) (txtL [10] xs) := by
  have h1 := costs_most _ hw
  have h2 : (toldL xs).length * (400 + 14 * 200) ≤ 100 * (400 + 14 * 200) := Nat.mul_le_mul_right _ hl
  have h3 := txtL_len xs hok [10] (by simp)
  exact ⟨by omega, write_c xs hok ⟨by omega, fun x hx => by have := hw x hx; omega⟩ (by omega)⟩
theorem texts_c {a b c : List Nd} (ha : isB a = true) (hb : isB b = true) (hc : isB c = true) (hl : (a ++ b ++ c).length ≤ 100) (hw : ∀ x ∈ a ++ b ++ c, x.words.length ≤ 200) :
    ∃ s t u, WOf a s ∧ WOf b t ∧ WOf c u ∧ WOf (a ++ b ++ c) (s ++ t ++ u) := by
  obtain ⟨xs, rfl, ox⟩ := shapes_of ha
  obtain ⟨ys, rfl, oy⟩ := shapes_of hb
  obtain ⟨zs, rfl, oz⟩ := shapes_of hc
  simp only [List.length_append,List.mem_append] at hl hw
  refine ⟨txtL [10] xs, txtL [10] ys, txtL [10] zs, writeX_c xs ox (by omega) (fun x hx => hw x (.inl (.inl hx))), writeX_c ys oy (by omega) (fun x hx => hw x (.inl (.inr hx))), writeX_c zs oz (by omega) (fun x hx => hw x (.inr hx)), ?_⟩
  have := writeX_c (xs ++ ys ++ zs) (okSs_both (okSs_both ox oy) oz) (by simp only [toldL_append,List.length_append]; omega) (fun x hx => by
    simp only [toldL_append,List.mem_append] at hx; exact hw x hx)
  simp only [toldL_append,txtL_append] at this
  exact this
structure EdV (v : V) (x : Ed) : Prop where
  eq : v = encE x
  len : v.cells.length = 17
  stays : v.stays = true
  agg : V.agg v.cells = v
  c0 : v.cells[0]? = some (vI x.kind)
  c1 : v.cells[1]? = some (vI x.into)
  c2 : v.cells[2]? = some (vI x.pos)
  c3 : v.cells[3]? = some (vI x.many)
  c4 : v.cells[4]? = some (encNs x.sub)
theorem edV (x : Ed) : ∃ v, EdV v x := ⟨_, rfl, rfl, rfl, rfl, rfl, rfl, rfl, rfl, rfl⟩
theorem betweenC_hlf {a b : List Nd} (hb : Hlf b) (hbb : isB b = true) : Hlf (betweenC a b).sub := by
  obtain ⟨N, M, h1, h2, -, -, -, -, he⟩ := between_facts a b
  have fy := treesR_flat hbb
  rw [he]
  have g1 := flatten_take_le (L := (treesR b).drop N) ((treesR b).length - N - M)
  have g2 := flatten_drop_le (L := treesR b) N
  rw [fy] at g2
  refine ⟨by have := hb.1; show (((treesR b).drop N).take _).flatten.length ≤ _; omega, fun z hz => hb.2 z ?_⟩
  rw [← fy]
  obtain ⟨t, ht, hz⟩ := List.mem_flatten.1 hz
  exact List.mem_flatten.2 ⟨t, List.mem_of_mem_drop (List.mem_of_mem_take ht), hz⟩
set_option maxRecDepth 100000 in
theorem editBetween_c (a b : List Nd) (x : Ed) (ha : a.length ≤ 1000000000000 ∧ ∀ z ∈ a, z.words.length ≤ 200000000000000) (hb : b.length ≤ 1000000000000 ∧ ∀ z ∈ b, z.words.length ≤ 200000000000000)
    (hx : x.sub.length ≤ 1000000000000 ∧ ∀ z ∈ x.sub, z.words.length ≤ 200000000000000) : PFun Tryd.prog 3 [encNs a, encNs b, encE x] (.bool true) := fun σ => by
  obtain ⟨xs, X⟩ := edV x
  rw [← X.eq]
  obtain ⟨x0, xlen, xst, xagg, xc0, xc1, xc2, xc3, xc4⟩ := X
  refine Contract.of_runs Tryd.func3 e3 k3 (by simp [c3]) ?_
  refine Runs.mix 27 ?_
  (refine Runs.of_step Orc.nothing 300 ?_; simp -implicitDefEqProofs only [BB,seval,← decide_not,okind,vpre,vpure,intBin,intPre,strBin,strPre,popTo,argSlots,fldV,fldAV,subCells,idxVV,idxAAV,idxSV,sliceV,sliceSV,boundV,szIs,storeOp,storeS,setRowV,eff,extV,buildV,splice,eqSV,fitsL,eqCells,eqCell,minmaxV,capV,binBV,nilCheckV,bytesV,Orc.nothing,c3,V.cells_agg,V.cells_int,V.cells_nils,V.cells_own,V.cells_sl,V.cells_str,V.cells_bool,V.cells_fn,V.cells_ptr,V.cells_rp,V.stays_agg,V.stays_int,V.stays_nils,V.stays_own,V.stays_sl,V.stays_str,V.stays_bool,V.stays_fn,V.stays_ptr,V.stays_rp,xlen,xst])
  refine effR_new fun i5 σ5 s5 a5 f5 => ?_
  simp -implicitDefEqProofs only [BB,seval,← decide_not,okind,vpre,vpure,intBin,intPre,strBin,strPre,popTo,argSlots,fldV,fldAV,subCells,idxVV,idxAAV,idxSV,sliceV,sliceSV,boundV,szIs,storeOp,storeS,setRowV,eff,extV,buildV,splice,eqSV,fitsL,eqCells,eqCell,minmaxV,capV,binBV,nilCheckV,bytesV,V.cells,V.stays]
  refine Runs.pcall rfl rfl rfl (vast_c a ha.1 ha.2 _) ?_
  have awk : ∀ {σ'}, SubStore σ σ' → RetV (.bool true) σ' fun r σ'' => r = .bool true ∧ σ'' = σ := fun h => RetV.pure h rfl
  cases va : vastR a
  case true =>
    (refine Runs.of_step Orc.nothing 300 ?_; simp -implicitDefEqProofs only [BB,seval,← decide_not,okind,vpre,vpure,intBin,intPre,strBin,strPre,popTo,argSlots,fldV,fldAV,subCells,idxVV,idxAAV,idxSV,sliceV,sliceSV,boundV,szIs,storeOp,storeS,setRowV,eff,extV,buildV,splice,eqSV,fitsL,eqCells,eqCell,minmaxV,capV,binBV,nilCheckV,bytesV,V.cells,V.stays,Orc.nothing])
    refine Runs.pcall rfl rfl rfl (awake36_c _) ?_
    (refine Runs.of_step Orc.nothing 300 ?_; simp -implicitDefEqProofs only [BB,seval,← decide_not,okind,vpre,vpure,intBin,intPre,strBin,strPre,popTo,argSlots,fldV,fldAV,subCells,idxVV,idxAAV,idxSV,sliceV,sliceSV,boundV,szIs,storeOp,storeS,setRowV,eff,extV,buildV,splice,eqSV,fitsL,eqCells,eqCell,minmaxV,capV,binBV,nilCheckV,bytesV,V.cells,V.stays,Orc.nothing])
    exact awk s5
  (refine Runs.of_step Orc.nothing 300 ?_; simp -implicitDefEqProofs only [BB,seval,← decide_not,okind,vpre,vpure,intBin,intPre,strBin,strPre,popTo,argSlots,fldV,fldAV,subCells,idxVV,idxAAV,idxSV,sliceV,sliceSV,boundV,szIs,storeOp,storeS,setRowV,eff,extV,buildV,splice,eqSV,fitsL,eqCells,eqCell,minmaxV,capV,binBV,nilCheckV,bytesV,V.cells,V.stays,Orc.nothing])
  refine Runs.pcall rfl rfl rfl (vast_c b hb.1 hb.2 _) ?_
  cases vb : vastR b
  case true =>
    (refine Runs.of_step Orc.nothing 300 ?_; simp -implicitDefEqProofs only [BB,seval,← decide_not,okind,vpre,vpure,intBin,intPre,strBin,strPre,popTo,argSlots,fldV,fldAV,subCells,idxVV,idxAAV,idxSV,sliceV,sliceSV,boundV,szIs,storeOp,storeS,setRowV,eff,extV,buildV,splice,eqSV,fitsL,eqCells,eqCell,minmaxV,capV,binBV,nilCheckV,bytesV,V.cells,V.stays,Orc.nothing])
    refine Runs.pcall rfl rfl rfl (awake36_c _) ?_
    (refine Runs.of_step Orc.nothing 300 ?_; simp -implicitDefEqProofs only [BB,seval,← decide_not,okind,vpre,vpure,intBin,intPre,strBin,strPre,popTo,argSlots,fldV,fldAV,subCells,idxVV,idxAAV,idxSV,sliceV,sliceSV,boundV,szIs,storeOp,storeS,setRowV,eff,extV,buildV,splice,eqSV,fitsL,eqCells,eqCell,minmaxV,capV,binBV,nilCheckV,bytesV,V.cells,V.stays,Orc.nothing])
    exact awk s5
  (refine Runs.of_step Orc.nothing 300 ?_; simp -implicitDefEqProofs only [BB,seval,← decide_not,okind,vpre,vpure,intBin,intPre,strBin,strPre,popTo,argSlots,fldV,fldAV,subCells,idxVV,idxAAV,idxSV,sliceV,sliceSV,boundV,szIs,storeOp,storeS,setRowV,eff,extV,buildV,splice,eqSV,fitsL,eqCells,eqCell,minmaxV,capV,binBV,nilCheckV,bytesV,Orc.nothing,a5,xc4,V.cells_agg,V.cells_int,V.cells_nils,V.cells_own,V.cells_sl,V.cells_str,V.cells_bool,V.cells_fn,V.cells_ptr,V.cells_rp,V.stays_agg,V.stays_int,V.stays_nils,V.stays_own,V.stays_sl,V.stays_str,V.stays_bool,V.stays_fn,V.stays_ptr,V.stays_rp])
  refine Runs.pcall rfl rfl rfl (vast_c x.sub hx.1 hx.2 _) ?_
  cases vx : vastR x.sub
  case true =>
    (refine Runs.of_step Orc.nothing 300 ?_; simp -implicitDefEqProofs only [BB,seval,← decide_not,okind,vpre,vpure,intBin,intPre,strBin,strPre,popTo,argSlots,fldV,fldAV,subCells,idxVV,idxAAV,idxSV,sliceV,sliceSV,boundV,szIs,storeOp,storeS,setRowV,eff,extV,buildV,splice,eqSV,fitsL,eqCells,eqCell,minmaxV,capV,binBV,nilCheckV,bytesV,V.cells,V.stays,Orc.nothing])
    refine Runs.pcall rfl rfl rfl (awake36_c _) ?_
    (refine Runs.of_step Orc.nothing 300 ?_; simp -implicitDefEqProofs only [BB,seval,← decide_not,okind,vpre,vpure,intBin,intPre,strBin,strPre,popTo,argSlots,fldV,fldAV,subCells,idxVV,idxAAV,idxSV,sliceV,sliceSV,boundV,szIs,storeOp,storeS,setRowV,eff,extV,buildV,splice,eqSV,fitsL,eqCells,eqCell,minmaxV,capV,binBV,nilCheckV,bytesV,V.cells,V.stays,Orc.nothing])
    exact awk s5
  (refine Runs.of_step Orc.nothing 300 ?_; simp -implicitDefEqProofs only [BB,seval,← decide_not,okind,vpre,vpure,intBin,intPre,strBin,strPre,popTo,argSlots,fldV,fldAV,subCells,idxVV,idxAAV,idxSV,sliceV,sliceSV,boundV,szIs,storeOp,storeS,setRowV,eff,extV,buildV,splice,eqSV,fitsL,eqCells,eqCell,minmaxV,capV,binBV,nilCheckV,bytesV,V.cells,V.stays,Orc.nothing])
  have la := (vastR_len va).hlf (by omega)
  have lb := (vastR_len vb).hlf (by omega)
  have lx := (vastR_len vx).hlf (by omega)
  refine Runs.pcall rfl rfl rfl (isv_c a la.sml.fine _) ?_
  cases hba : isB a
  case false =>
    (refine Runs.of_step Orc.nothing 300 ?_; simp -implicitDefEqProofs only [BB,seval,← decide_not,okind,vpre,vpure,intBin,intPre,strBin,strPre,popTo,argSlots,fldV,fldAV,subCells,idxVV,idxAAV,idxSV,sliceV,sliceSV,boundV,szIs,storeOp,storeS,setRowV,eff,extV,buildV,splice,eqSV,fitsL,eqCells,eqCell,minmaxV,capV,binBV,nilCheckV,bytesV,V.cells,V.stays,Orc.nothing])
    refine Runs.pcall rfl rfl rfl (awake36_c _) ?_
    (refine Runs.of_step Orc.nothing 300 ?_; simp -implicitDefEqProofs only [BB,seval,← decide_not,okind,vpre,vpure,intBin,intPre,strBin,strPre,popTo,argSlots,fldV,fldAV,subCells,idxVV,idxAAV,idxSV,sliceV,sliceSV,boundV,szIs,storeOp,storeS,setRowV,eff,extV,buildV,splice,eqSV,fitsL,eqCells,eqCell,minmaxV,capV,binBV,nilCheckV,bytesV,V.cells,V.stays,Orc.nothing])
    exact awk s5
  (refine Runs.of_step Orc.nothing 300 ?_; simp -implicitDefEqProofs only [BB,seval,← decide_not,okind,vpre,vpure,intBin,intPre,strBin,strPre,popTo,argSlots,fldV,fldAV,subCells,idxVV,idxAAV,idxSV,sliceV,sliceSV,boundV,szIs,storeOp,storeS,setRowV,eff,extV,buildV,splice,eqSV,fitsL,eqCells,eqCell,minmaxV,capV,binBV,nilCheckV,bytesV,V.cells,V.stays,Orc.nothing])
  refine Runs.pcall rfl rfl rfl (isv_c b lb.sml.fine _) ?_
  cases hbb : isB b
  case false =>
    (refine Runs.of_step Orc.nothing 300 ?_; simp -implicitDefEqProofs only [BB,seval,← decide_not,okind,vpre,vpure,intBin,intPre,strBin,strPre,popTo,argSlots,fldV,fldAV,subCells,idxVV,idxAAV,idxSV,sliceV,sliceSV,boundV,szIs,storeOp,storeS,setRowV,eff,extV,buildV,splice,eqSV,fitsL,eqCells,eqCell,minmaxV,capV,binBV,nilCheckV,bytesV,V.cells,V.stays,Orc.nothing])
    refine Runs.pcall rfl rfl rfl (awake36_c _) ?_
    (refine Runs.of_step Orc.nothing 300 ?_; simp -implicitDefEqProofs only [BB,seval,← decide_not,okind,vpre,vpure,intBin,intPre,strBin,strPre,popTo,argSlots,fldV,fldAV,subCells,idxVV,idxAAV,idxSV,sliceV,sliceSV,boundV,szIs,storeOp,storeS,setRowV,eff,extV,buildV,splice,eqSV,fitsL,eqCells,eqCell,minmaxV,capV,binBV,nilCheckV,bytesV,V.cells,V.stays,Orc.nothing])
    exact awk s5
  have hbw : ∀ (p q : List Nd), Hlf p → Hlf q → isB p = true → isB q = true → ∀ v, EdV v (betweenC p q) → PFun Tryd.prog 7 [encNs p, encNs q] (.tup [v, vI 0]) := fun p q hp hq h1 h2 v hv => by
    have h := between_c p q hp hq
    rw [betweenR, h1, h2] at h
    rw [hv.eq]; exact h
  obtain ⟨ys, Y⟩ := edV (betweenC a b)
  obtain ⟨ss, S⟩ := edV (betweenC a a)
  obtain ⟨zs, Z⟩ := edV (betweenC b a)
  have hdo := between_do hba hbb
  have hdy : PFun Tryd.prog 8 [encNs a, ys] (.tup [encNs b, vI 0]) := by
    have h := do_c a (betweenC a b) la (betweenC_hlf lb hbb)
    rw [hdo, ← Y.eq] at h
    exact h
  have hbk : PFun Tryd.prog 9 [encNs a, ys] (.tup [zs, vI 0]) := by
    have h := back_c a (betweenC a b) la (betweenC_hlf lb hbb)
    rw [backC, hdo, ← between_back hba hbb, ← Y.eq] at h
    simp only [Option.isSome_some,if_true] at h
    rw [← Z.eq] at h
    exact h
  have hdx := do_c a x la lx
  rw [← x0] at hdx
  have hzz := sameE_c (betweenC b a) (betweenC b a) (betweenC_hlf la hba).sml.fine (betweenC_hlf la hba).sml.fine
  rw [← Z.eq] at hzz
  simp only [decide_true] at hzz
  obtain ⟨hs1, hs2⟩ := between_self a
  have S3 := S.c3
  have S4 := S.c4
  rw [hs1] at S3
  rw [hs2] at S4
  (refine Runs.of_step Orc.nothing 300 ?_; simp -implicitDefEqProofs only [BB,seval,← decide_not,okind,vpre,vpure,intBin,intPre,strBin,strPre,popTo,argSlots,fldV,fldAV,subCells,idxVV,idxAAV,idxSV,sliceV,sliceSV,boundV,szIs,storeOp,storeS,setRowV,eff,extV,buildV,splice,eqSV,fitsL,eqCells,eqCell,minmaxV,capV,binBV,nilCheckV,bytesV,V.cells,V.stays,Orc.nothing])
  refine Runs.pcall rfl rfl rfl (hbw a b la lb hba hbb ys Y _) ?_
  (refine Runs.of_step Orc.nothing 300 ?_; simp -implicitDefEqProofs only [BB,seval,← decide_not,okind,vpre,vpure,intBin,intPre,strBin,strPre,popTo,argSlots,fldV,fldAV,subCells,idxVV,idxAAV,idxSV,sliceV,sliceSV,boundV,szIs,storeOp,storeS,setRowV,eff,extV,buildV,splice,eqSV,fitsL,eqCells,eqCell,minmaxV,capV,binBV,nilCheckV,bytesV,Orc.nothing,V.cells_agg,V.cells_int,V.cells_nils,V.cells_own,V.cells_sl,V.cells_str,V.cells_bool,V.cells_fn,V.cells_ptr,V.cells_rp,V.stays_agg,V.stays_int,V.stays_nils,V.stays_own,V.stays_sl,V.stays_str,V.stays_bool,V.stays_fn,V.stays_ptr,V.stays_rp,Y.len,Y.stays])
  refine effR_new fun i7 σ7 s7 a7 f7 => ?_
  have n57 := ne_new a5 f7
  simp -implicitDefEqProofs only [BB,seval,← decide_not,okind,vpre,vpure,intBin,intPre,strBin,strPre,popTo,argSlots,fldV,fldAV,subCells,idxVV,idxAAV,idxSV,sliceV,sliceSV,boundV,szIs,storeOp,storeS,setRowV,eff,extV,buildV,splice,eqSV,fitsL,eqCells,eqCell,minmaxV,capV,binBV,nilCheckV,bytesV,a7,V.cells_agg,V.cells_int,V.cells_nils,V.cells_own,V.cells_sl,V.cells_str,V.cells_bool,V.cells_fn,V.cells_ptr,V.cells_rp,V.stays_agg,V.stays_int,V.stays_nils,V.stays_own,V.stays_sl,V.stays_str,V.stays_bool,V.stays_fn,V.stays_ptr,V.stays_rp,Y.len,Y.stays,Y.agg]
  generalize ht7 : upd σ7 i7 _ = τ7
  have b7 : τ7 i7 = some ⟨26, 17, [ys]⟩ := by rw [← ht7]; exact upd_same
  have b5 : τ7 i5 = some ⟨26, 17, [xs]⟩ := by rw [← ht7, upd_ne n57]; exact s7 _ _ a5
  have t7 : SubStore σ τ7 := by rw [← ht7]; exact (s5.trans s7).updK (s5.none f7)
  refine Runs.pcall rfl rfl rfl (hdy _) ?_
  (refine Runs.of_step Orc.nothing 300 ?_; simp -implicitDefEqProofs only [BB,seval,← decide_not,okind,vpre,vpure,intBin,intPre,strBin,strPre,popTo,argSlots,fldV,fldAV,subCells,idxVV,idxAAV,idxSV,sliceV,sliceSV,boundV,szIs,storeOp,storeS,setRowV,eff,extV,buildV,splice,eqSV,fitsL,eqCells,eqCell,minmaxV,capV,binBV,nilCheckV,bytesV,V.cells,V.stays,Orc.nothing])
  refine Runs.pcall rfl rfl rfl (hbw a a la la hba hba ss S _) ?_
  (refine Runs.of_step Orc.nothing 300 ?_; simp -implicitDefEqProofs only [BB,seval,← decide_not,okind,vpre,vpure,intBin,intPre,strBin,strPre,popTo,argSlots,fldV,fldAV,subCells,idxVV,idxAAV,idxSV,sliceV,sliceSV,boundV,szIs,storeOp,storeS,setRowV,eff,extV,buildV,splice,eqSV,fitsL,eqCells,eqCell,minmaxV,capV,binBV,nilCheckV,bytesV,Orc.nothing,V.cells_agg,V.cells_int,V.cells_nils,V.cells_own,V.cells_sl,V.cells_str,V.cells_bool,V.cells_fn,V.cells_ptr,V.cells_rp,V.stays_agg,V.stays_int,V.stays_nils,V.stays_own,V.stays_sl,V.stays_str,V.stays_bool,V.stays_fn,V.stays_ptr,V.stays_rp,S.len,S.stays])
  refine effR_new fun i11 σ11 s11 a11 f11 => ?_
  have n511 := ne_new b5 f11
  have n711 := ne_new b7 f11
  simp -implicitDefEqProofs only [BB,seval,← decide_not,okind,vpre,vpure,intBin,intPre,strBin,strPre,popTo,argSlots,fldV,fldAV,subCells,idxVV,idxAAV,idxSV,sliceV,sliceSV,boundV,szIs,storeOp,storeS,setRowV,eff,extV,buildV,splice,eqSV,fitsL,eqCells,eqCell,minmaxV,capV,binBV,nilCheckV,bytesV,a11,V.cells_agg,V.cells_int,V.cells_nils,V.cells_own,V.cells_sl,V.cells_str,V.cells_bool,V.cells_fn,V.cells_ptr,V.cells_rp,V.stays_agg,V.stays_int,V.stays_nils,V.stays_own,V.stays_sl,V.stays_str,V.stays_bool,V.stays_fn,V.stays_ptr,V.stays_rp,S.len,S.stays,S.agg]
  generalize ht11 : upd σ11 i11 _ = τ11
  have c11 : τ11 i11 = some ⟨26, 17, [ss]⟩ := by rw [← ht11]; exact upd_same
  have c5 : τ11 i5 = some ⟨26, 17, [xs]⟩ := by rw [← ht11, upd_ne n511]; exact s11 _ _ b5
  have c7 : τ11 i7 = some ⟨26, 17, [ys]⟩ := by rw [← ht11, upd_ne n711]; exact s11 _ _ b7
  have t11 : SubStore σ τ11 := by rw [← ht11]; exact (t7.trans s11).updK (t7.none f11)
  refine Runs.pcall rfl rfl rfl (hbw b a lb la hbb hba zs Z _) ?_
  (refine Runs.of_step Orc.nothing 300 ?_; simp -implicitDefEqProofs only [BB,seval,← decide_not,okind,vpre,vpure,intBin,intPre,strBin,strPre,popTo,argSlots,fldV,fldAV,subCells,idxVV,idxAAV,idxSV,sliceV,sliceSV,boundV,szIs,storeOp,storeS,setRowV,eff,extV,buildV,splice,eqSV,fitsL,eqCells,eqCell,minmaxV,capV,binBV,nilCheckV,bytesV,Orc.nothing,V.cells_agg,V.cells_int,V.cells_nils,V.cells_own,V.cells_sl,V.cells_str,V.cells_bool,V.cells_fn,V.cells_ptr,V.cells_rp,V.stays_agg,V.stays_int,V.stays_nils,V.stays_own,V.stays_sl,V.stays_str,V.stays_bool,V.stays_fn,V.stays_ptr,V.stays_rp,Z.len,Z.stays])
  refine effR_new fun i13 σ13 s13 a13 f13 => ?_
  have n513 := ne_new c5 f13
  have n713 := ne_new c7 f13
  have n1113 := ne_new c11 f13
  simp -implicitDefEqProofs only [BB,seval,← decide_not,okind,vpre,vpure,intBin,intPre,strBin,strPre,popTo,argSlots,fldV,fldAV,subCells,idxVV,idxAAV,idxSV,sliceV,sliceSV,boundV,szIs,storeOp,storeS,setRowV,eff,extV,buildV,splice,eqSV,fitsL,eqCells,eqCell,minmaxV,capV,binBV,nilCheckV,bytesV,a13,s13 _ _ c7,upd_ne n713,V.cells_agg,V.cells_int,V.cells_nils,V.cells_own,V.cells_sl,V.cells_str,V.cells_bool,V.cells_fn,V.cells_ptr,V.cells_rp,V.stays_agg,V.stays_int,V.stays_nils,V.stays_own,V.stays_sl,V.stays_str,V.stays_bool,V.stays_fn,V.stays_ptr,V.stays_rp,Z.len,Z.stays,Z.agg,Y.len,Y.agg]
  generalize ht13 : upd σ13 i13 _ = τ13
  have d13 : τ13 i13 = some ⟨26, 17, [zs]⟩ := by rw [← ht13]; exact upd_same
  have d5 : τ13 i5 = some ⟨26, 17, [xs]⟩ := by rw [← ht13, upd_ne n513]; exact s13 _ _ c5
  have d11 : τ13 i11 = some ⟨26, 17, [ss]⟩ := by rw [← ht13, upd_ne n1113]; exact s13 _ _ c11
  have t13 : SubStore σ τ13 := by rw [← ht13]; exact (t11.trans s13).updK (t11.none f13)
  refine Runs.pcall rfl rfl rfl (hbk _) ?_
  (refine Runs.of_step Orc.nothing 300 ?_; simp -implicitDefEqProofs only [BB,seval,← decide_not,okind,vpre,vpure,intBin,intPre,strBin,strPre,popTo,argSlots,fldV,fldAV,subCells,idxVV,idxAAV,idxSV,sliceV,sliceSV,boundV,szIs,storeOp,storeS,setRowV,eff,extV,buildV,splice,eqSV,fitsL,eqCells,eqCell,minmaxV,capV,binBV,nilCheckV,bytesV,Orc.nothing,V.cells_agg,V.cells_int,V.cells_nils,V.cells_own,V.cells_sl,V.cells_str,V.cells_bool,V.cells_fn,V.cells_ptr,V.cells_rp,V.stays_agg,V.stays_int,V.stays_nils,V.stays_own,V.stays_sl,V.stays_str,V.stays_bool,V.stays_fn,V.stays_ptr,V.stays_rp,Z.len,Z.stays])
  refine effR_new fun i15 σ15 s15 a15 f15 => ?_
  have n515 := ne_new d5 f15
  have n1115 := ne_new d11 f15
  have n1315 := ne_new d13 f15
  simp -implicitDefEqProofs only [BB,seval,← decide_not,okind,vpre,vpure,intBin,intPre,strBin,strPre,popTo,argSlots,fldV,fldAV,subCells,idxVV,idxAAV,idxSV,sliceV,sliceSV,boundV,szIs,storeOp,storeS,setRowV,eff,extV,buildV,splice,eqSV,fitsL,eqCells,eqCell,minmaxV,capV,binBV,nilCheckV,bytesV,a15,V.cells_agg,V.cells_int,V.cells_nils,V.cells_own,V.cells_sl,V.cells_str,V.cells_bool,V.cells_fn,V.cells_ptr,V.cells_rp,V.stays_agg,V.stays_int,V.stays_nils,V.stays_own,V.stays_sl,V.stays_str,V.stays_bool,V.stays_fn,V.stays_ptr,V.stays_rp,Z.len,Z.stays,Z.agg]
  generalize ht15 : upd σ15 i15 _ = τ15
  have e15 : τ15 i15 = some ⟨26, 17, [zs]⟩ := by rw [← ht15]; exact upd_same
  have e13 : τ15 i13 = some ⟨26, 17, [zs]⟩ := by rw [← ht15, upd_ne n1315]; exact s15 _ _ d13
  have e5 : τ15 i5 = some ⟨26, 17, [xs]⟩ := by rw [← ht15, upd_ne n515]; exact s15 _ _ d5
  have e11 : τ15 i11 = some ⟨26, 17, [ss]⟩ := by rw [← ht15, upd_ne n1115]; exact s15 _ _ d11
  have t15 : SubStore σ τ15 := by rw [← ht15]; exact (t13.trans s15).updK (t13.none f15)
  refine Runs.pcall rfl rfl rfl (same5_c b b lb.sml.fine lb.sml.fine _) ?_
  rw [decide_eq_true rfl]
  (refine Runs.of_step Orc.nothing 300 ?_; simp -implicitDefEqProofs only [BB,seval,← decide_not,okind,vpre,vpure,intBin,intPre,strBin,strPre,popTo,argSlots,fldV,fldAV,subCells,idxVV,idxAAV,idxSV,sliceV,sliceSV,boundV,szIs,storeOp,storeS,setRowV,eff,extV,buildV,splice,eqSV,fitsL,eqCells,eqCell,minmaxV,capV,binBV,nilCheckV,bytesV,Orc.nothing,e11,e13,e15,S3,S4,V.cells_agg,V.cells_int,V.cells_nils,V.cells_own,V.cells_sl,V.cells_str,V.cells_bool,V.cells_fn,V.cells_ptr,V.cells_rp,V.stays_agg,V.stays_int,V.stays_nils,V.stays_own,V.stays_sl,V.stays_str,V.stays_bool,V.stays_fn,V.stays_ptr,V.stays_rp,lenV_encNs,Z.len,Z.agg])
  refine Runs.pcall rfl rfl rfl (hzz _) ?_
  (refine Runs.of_step Orc.nothing 300 ?_; simp -implicitDefEqProofs only [BB,seval,← decide_not,okind,vpre,vpure,intBin,intPre,strBin,strPre,popTo,argSlots,fldV,fldAV,subCells,idxVV,idxAAV,idxSV,sliceV,sliceSV,boundV,szIs,storeOp,storeS,setRowV,eff,extV,buildV,splice,eqSV,fitsL,eqCells,eqCell,minmaxV,capV,binBV,nilCheckV,bytesV,Orc.nothing,e5,xlen,xagg,V.cells_agg,V.cells_int,V.cells_nils,V.cells_own,V.cells_sl,V.cells_str,V.cells_bool,V.cells_fn,V.cells_ptr,V.cells_rp,V.stays_agg,V.stays_int,V.stays_nils,V.stays_own,V.stays_sl,V.stays_str,V.stays_bool,V.stays_fn,V.stays_ptr,V.stays_rp])
  cases hd : doR a x with
  | none =>
    rw [hd] at hdx
    replace hdx : PFun Tryd.prog 8 [encNs a, xs] (.tup [encNs [], vI 4]) := hdx
    refine Runs.pcall rfl rfl rfl (hdx _) ?_
    (refine Runs.of_step Orc.nothing 300 ?_; simp -implicitDefEqProofs only [BB,seval,← decide_not,okind,vpre,vpure,intBin,intPre,strBin,strPre,popTo,argSlots,fldV,fldAV,subCells,idxVV,idxAAV,idxSV,sliceV,sliceSV,boundV,szIs,storeOp,storeS,setRowV,eff,extV,buildV,splice,eqSV,fitsL,eqCells,eqCell,minmaxV,capV,binBV,nilCheckV,bytesV,V.cells,V.stays,Orc.nothing])
    refine Runs.pcall rfl rfl rfl (awake36_c _) ?_
    (refine Runs.of_step Orc.nothing 300 ?_; simp -implicitDefEqProofs only [BB,seval,← decide_not,okind,vpre,vpure,intBin,intPre,strBin,strPre,popTo,argSlots,fldV,fldAV,subCells,idxVV,idxAAV,idxSV,sliceV,sliceSV,boundV,szIs,storeOp,storeS,setRowV,eff,extV,buildV,splice,eqSV,fitsL,eqCells,eqCell,minmaxV,capV,binBV,nilCheckV,bytesV,V.cells,V.stays,Orc.nothing])
    exact awk t15
  | some out =>
  rw [hd] at hdx
  replace hdx : PFun Tryd.prog 8 [encNs a, xs] (.tup [encNs out, vI 0]) := hdx
  refine Runs.pcall rfl rfl rfl (hdx _) ?_
  by_cases hk : x.kind = 1
  case neg =>
    have q1 : (x.kind ≠ 1) = True := eq_true hk
    (refine Runs.of_step Orc.nothing 300 ?_; simp -implicitDefEqProofs only [BB,seval,← decide_not,okind,vpre,vpure,intBin,intPre,strBin,strPre,popTo,argSlots,fldV,fldAV,subCells,idxVV,idxAAV,idxSV,sliceV,sliceSV,boundV,szIs,storeOp,storeS,setRowV,eff,extV,buildV,splice,eqSV,fitsL,eqCells,eqCell,minmaxV,capV,binBV,nilCheckV,bytesV,Orc.nothing,e5,xc0,q1,V.cells_agg,V.cells_int,V.cells_nils,V.cells_own,V.cells_sl,V.cells_str,V.cells_bool,V.cells_fn,V.cells_ptr,V.cells_rp,V.stays_agg,V.stays_int,V.stays_nils,V.stays_own,V.stays_sl,V.stays_str,V.stays_bool,V.stays_fn,V.stays_ptr,V.stays_rp])
    refine Runs.pcall rfl rfl rfl (awake36_c _) ?_
    (refine Runs.of_step Orc.nothing 300 ?_; simp -implicitDefEqProofs only [BB,seval,← decide_not,okind,vpre,vpure,intBin,intPre,strBin,strPre,popTo,argSlots,fldV,fldAV,subCells,idxVV,idxAAV,idxSV,sliceV,sliceSV,boundV,szIs,storeOp,storeS,setRowV,eff,extV,buildV,splice,eqSV,fitsL,eqCells,eqCell,minmaxV,capV,binBV,nilCheckV,bytesV,V.cells,V.stays,Orc.nothing])
    exact awk t15
  by_cases hi : x.into = -1
  case neg =>
    have q1 : (x.into ≠ -1) = True := eq_true hi
    rw [hk] at xc0
    (refine Runs.of_step Orc.nothing 300 ?_; simp -implicitDefEqProofs only [BB,seval,← decide_not,okind,vpre,vpure,intBin,intPre,strBin,strPre,popTo,argSlots,fldV,fldAV,subCells,idxVV,idxAAV,idxSV,sliceV,sliceSV,boundV,szIs,storeOp,storeS,setRowV,eff,extV,buildV,splice,eqSV,fitsL,eqCells,eqCell,minmaxV,capV,binBV,nilCheckV,bytesV,Orc.nothing,e5,xc0,xc1,q1,V.cells_agg,V.cells_int,V.cells_nils,V.cells_own,V.cells_sl,V.cells_str,V.cells_bool,V.cells_fn,V.cells_ptr,V.cells_rp,V.stays_agg,V.stays_int,V.stays_nils,V.stays_own,V.stays_sl,V.stays_str,V.stays_bool,V.stays_fn,V.stays_ptr,V.stays_rp])
    refine Runs.pcall rfl rfl rfl (awake36_c _) ?_
    (refine Runs.of_step Orc.nothing 300 ?_; simp -implicitDefEqProofs only [BB,seval,← decide_not,okind,vpre,vpure,intBin,intPre,strBin,strPre,popTo,argSlots,fldV,fldAV,subCells,idxVV,idxAAV,idxSV,sliceV,sliceSV,boundV,szIs,storeOp,storeS,setRowV,eff,extV,buildV,splice,eqSV,fitsL,eqCells,eqCell,minmaxV,capV,binBV,nilCheckV,bytesV,V.cells,V.stays,Orc.nothing])
    exact awk t15
  obtain ⟨p, t, hp, hpt, hta, hout, b1, b2, b3, b4⟩ := swap_top hd hk hi
  have wa := vastR_words va
  have wx := vastR_words vx
  obtain ⟨s1, s2, s3, ⟨l1, w1⟩, ⟨l2, w2⟩, ⟨l3, w3⟩, ⟨l4, w4⟩⟩ := texts_c b1 b2 b3 (by simp only [List.length_append,List.length_take,List.length_drop]; omega) (fun z hz => by
    simp only [List.mem_append] at hz
    rcases hz with (hz | hz) | hz
    · exact wa.2 z (List.mem_of_mem_take hz)
    · exact wx.2 z hz
    · exact wa.2 z (List.mem_of_mem_drop hz))
  rw [← hout] at w4
  have hol : out.length = p + x.sub.length + (a.length - t) := by rw [hout]; simp only [List.length_append,List.length_take,List.length_drop]; omega
  rw [hk] at xc0
  rw [hi] at xc1
  rw [hp] at xc2
  have hE : (p : Int) + x.sub.length - ((out.length : Int) - a.length) = t := by omega
  have q1 : ((p : Int) < 0) = False := eq_false (by omega)
  have q2 : ((t : Int) < p) = False := eq_false (by omega)
  have q3 : ((t : Int) > a.length) = False := eq_false (by omega)
  have g1 : ∀ σ, sliceV σ 20 (encNs a) none (some (.int .i64 p)) none = some (encNs (a.take p)) := fun σ => by
    have := sliceV_encNs (σ := σ) (l := a) (s := 0) (e := p) (by omega) (by omega) (by omega)
    rw [show ((0 : Int)).toNat = 0 by rfl, List.drop_zero, Int.toNat_natCast, Nat.sub_zero] at this
    exact this
  have g2 : ∀ σ, sliceV σ 20 (encNs a) (some (.int .i64 t)) none none = some (encNs (a.drop t)) := fun σ => by
    have := sliceV_from (σ := σ) (l := a) (s := t) (by omega) (by omega)
    simpa using this
  (refine Runs.of_step Orc.nothing 300 ?_; simp -implicitDefEqProofs only [BB,seval,← decide_not,okind,vpre,vpure,intBin,intPre,strBin,strPre,popTo,argSlots,fldV,fldAV,subCells,idxVV,idxAAV,idxSV,sliceSV,boundV,szIs,storeOp,storeS,setRowV,eff,extV,buildV,splice,eqSV,fitsL,eqCells,eqCell,minmaxV,capV,binBV,nilCheckV,bytesV,Orc.nothing,e5,xc0,xc1,xc2,xc4,hE,q1,q2,q3,g1,g2,lenV_encNs,V.cells_agg,V.cells_int,V.cells_nils,V.cells_own,V.cells_sl,V.cells_str,V.cells_bool,V.cells_fn,V.cells_ptr,V.cells_rp,V.stays_agg,V.stays_int,V.stays_nils,V.stays_own,V.stays_sl,V.stays_str,V.stays_bool,V.stays_fn,V.stays_ptr,V.stays_rp])
  refine ⟨inR_i64 (by omega) (by omega), inR_i64 (by omega) (by omega), inR_i64 (by omega) (by omega), ?_⟩
  refine Runs.pcall rfl rfl rfl (w1 _) ?_
  (refine Runs.of_step Orc.nothing 300 ?_; simp -implicitDefEqProofs only [BB,seval,← decide_not,okind,vpre,vpure,intBin,intPre,strBin,strPre,popTo,argSlots,fldV,fldAV,subCells,idxVV,idxAAV,idxSV,sliceV,sliceSV,boundV,szIs,storeOp,storeS,setRowV,eff,extV,buildV,splice,eqSV,fitsL,eqCells,eqCell,minmaxV,capV,binBV,nilCheckV,bytesV,Orc.nothing,e5,xc4,V.cells_agg,V.cells_int,V.cells_nils,V.cells_own,V.cells_sl,V.cells_str,V.cells_bool,V.cells_fn,V.cells_ptr,V.cells_rp,V.stays_agg,V.stays_int,V.stays_nils,V.stays_own,V.stays_sl,V.stays_str,V.stays_bool,V.stays_fn,V.stays_ptr,V.stays_rp])
  refine Runs.pcall rfl rfl rfl (w2 _) ?_
  (refine Runs.of_step Orc.nothing 300 ?_; simp -implicitDefEqProofs only [BB,seval,← decide_not,okind,vpre,vpure,intBin,intPre,strBin,strPre,popTo,argSlots,fldV,fldAV,subCells,idxVV,idxAAV,idxSV,sliceSV,boundV,szIs,storeOp,storeS,setRowV,eff,extV,buildV,splice,eqSV,fitsL,eqCells,eqCell,minmaxV,capV,binBV,nilCheckV,bytesV,V.cells,V.stays,Orc.nothing,g2])
  refine Runs.pcall rfl rfl rfl (w3 _) ?_
  (refine Runs.of_step Orc.nothing 300 ?_; simp -implicitDefEqProofs only [BB,seval,← decide_not,okind,vpre,vpure,intBin,intPre,strBin,strPre,popTo,argSlots,fldV,fldAV,subCells,idxVV,idxAAV,idxSV,sliceV,sliceSV,boundV,szIs,storeOp,storeS,setRowV,eff,extV,buildV,splice,eqSV,fitsL,eqCells,eqCell,minmaxV,capV,binBV,nilCheckV,bytesV,V.cells,V.stays,Orc.nothing])
  refine Runs.pcall rfl rfl rfl (w4 _) ?_
  (refine Runs.of_step Orc.nothing 300 ?_; simp -implicitDefEqProofs only [BB,seval,← decide_not,okind,vpre,vpure,intBin,intPre,strBin,strPre,popTo,argSlots,fldV,fldAV,subCells,idxVV,idxAAV,idxSV,sliceV,sliceSV,boundV,szIs,storeOp,storeS,setRowV,eff,extV,buildV,splice,eqSV,fitsL,eqCells,eqCell,minmaxV,capV,binBV,nilCheckV,bytesV,V.cells,V.stays,Orc.nothing])
  refine ⟨by omega, by simp only [List.length_append]; omega, ?_⟩
  refine Runs.pcall rfl rfl rfl (awake36_c _) ?_
  (refine Runs.of_step Orc.nothing 300 ?_; simp -implicitDefEqProofs only [BB,seval,← decide_not,okind,vpre,vpure,intBin,intPre,strBin,strPre,popTo,argSlots,fldV,fldAV,subCells,idxVV,idxAAV,idxSV,sliceV,sliceSV,boundV,szIs,storeOp,storeS,setRowV,eff,extV,buildV,splice,eqSV,fitsL,eqCells,eqCell,minmaxV,capV,binBV,nilCheckV,bytesV,V.cells,V.stays,Orc.nothing])
  exact awk t15
theorem editBetween_r (a b : List Nd) (x : Ed) (ha : Nd.realL a) (hb : Nd.realL b) (hx : x.real) : PFun Tryd.prog 3 [encNs a, encNs b, encE x] (.bool true) :=
  editBetween_c a b x (realL_lim ha) (realL_lim hb) (realL_lim hx)
end Go.Vc
