/- Part 4 of the library of this proof. -/
import Derived.Test.YtnomejmaolodhaaW3
import Derived.KernelRfl
set_option linter.all false
namespace Go.Vc
open Go.Proofs
def o14 (f : FuncId) (args : List V) : Option V := if f = 39 then (match args with
  | [.agg [.int .i64 a0, .int .i64 a1, .int .i64 a2, .int .i64 a3, .int .i64 a4, .int .i64 a5, .int .i64 a6, .int .i64 a7, .int .i64 a8, .int .i64 a9, .int .i64 a10, .int .i64 a11, .int .i64 a12, .int .i64 a13, .int .i64 a14, .int .i64 a15, .sl 1 rows, .int .i64 a17, .int .i64 a18, .int .i64 a19]] =>
    (intsOf rows).bind fun ws => if ws.length ≤ 200000000000000 then some (.bool (Nd.ok ⟨a0, a1, ⟨a2, a3, a4, a5, a6, a7, a8, a9, a10, a11, a12, a13⟩, a14, a15, ws, a17, a18, a19⟩)) else none
  | _ => none) else none
def O14 : Orc Try.prog where
  get f args _ := o14 f args
  ok f args σ v h := by
    unfold o14 at h
    split at h
    · rename_i hf
      subst hf
      split at h
      · rw [Option.bind_eq_some_iff] at h
        obtain ⟨ws, h1, h2⟩ := h
        split at h2
        · rename_i hw
          simp only [Option.some.injEq] at h2
          subst h2
          rw [intsOf_eq h1]
          exact fits_c ⟨_, _, ⟨_, _, _, _, _, _, _, _, _, _, _, _⟩, _, _, ws, _, _, _⟩ hw σ
        · cases h2
      · cases h
    · cases h
theorem O14_35 {x : Nd} (hw : x.words.length ≤ 200000000000000) (σ : Store) : O14.get 39 [.agg [.int .i64 x.kind, .int .i64 x.size, .int .i64 x.st.top, .int .i64 x.st.bottom, .int .i64 x.st.padTop, .int .i64 x.st.padBottom, .int .i64 x.st.inset, .int .i64 x.st.orphans, .int .i64 x.st.widows, .int .i64 x.st.head, .int .i64 x.st.before, .int .i64 x.st.after, .int .i64 x.st.inside, .int .i64 x.st.clear, .int .i64 x.line, .int .i64 x.space, encI x.words, .int .i64 x.side, .int .i64 x.w, .int .i64 x.h]] σ =
    some (.bool x.ok) := by
  show ((intsOf (x.words.map vI)).bind fun ws => if ws.length ≤ 200000000000000 then some (V.bool (Nd.ok ⟨x.kind, x.size, ⟨x.st.top, x.st.bottom, x.st.padTop, x.st.padBottom, x.st.inset, x.st.orphans, x.st.widows, x.st.head, x.st.before, x.st.after, x.st.inside, x.st.clear⟩, x.line, x.space, ws, x.side, x.w, x.h⟩)) else none) = _
  rw [intsOf_map, Option.bind_some, if_pos hw]
theorem ends_top {rows : List V} {k : Nat} {a : Int} {s : List Int} (hk : k = (a :: s).length) (ht : rows.take k = (a :: s).reverse.map vI) : rows[k - 1]? = some (.int .i64 a) ∧ rows.take (k - 1) = s.reverse.map vI := by
  simp only [List.length_cons] at hk
  have h1 : (rows.take k)[k - 1]? = rows[k - 1]? := by rw [List.getElem?_take, if_pos (by omega)]
  constructor
  · rw [← h1, ht, hk]
    simp
  · have h2 : rows.take (k - 1) = (rows.take k).take (k - 1) := by rw [List.take_take]; congr 1; omega
    rw [h2, ht, hk]
    simp
theorem Asc.le {n : Nat} : ∀ {stk : List Int} {lo : Nat}, Asc n lo stk → lo ≤ n
  | [], lo, h => by simp only [Asc] at h; omega
  | a :: s, lo, h => by have h1 := h.1; have h2 := Asc.le h.2; omega
set_option maxRecDepth 100000 in
theorem isv_c (l : List Nd) (hl : Fine l) : PFun Try.prog 20 [encNs l] (.bool (isB l)) := fun σ => by
  have hl0 := hl
  obtain ⟨hl1, hl2⟩ := hl
  refine Contract.of_runs Try.func20 e20 k20 (by simp [c20]) ?_
  refine Runs.mix 6 ?_
  (refine Runs.of_step Orc.nothing 300 ?_; simp -implicitDefEqProofs only [BB,seval,effR_some,effD_some,← decide_not,okind,vpre,vpure,intBin,intPre,strBin,strPre,popTo,argSlots,fldV,fldAV,subCells,idxVV,idxAAV,idxSV,sliceV,sliceSV,boundV,szIs,storeOp,storeS,setRowV,eff,extV,buildV,splice,eqSV,fitsL,eqCells,eqCell,minmaxV,capV,binBV,nilCheckV,bytesV,V.cells,V.stays,Orc.nothing,c20,lenV_encNs])
  intro e0 he0
  refine Runs.loop (fun m st => ∃ i stk e k rows, i ≤ l.length ∧ m = l.length - i ∧ isB l = isS (l.drop i) i stk ∧ Asc l.length i stk ∧ stk ≠ [] ∧ stk.length ≤ i + 1 ∧ SubStore σ st.σ ∧ st.σ e = some ⟨3, 1, rows⟩ ∧ σ e = none ∧ k = stk.length ∧ k ≤ rows.length ∧ rows.take k = stk.reverse.map vI ∧
    st.s 3 = .own e 0 k ∧ st.s 9 = encNs l ∧ st.s 10 = vI l.length ∧ st.s 11 = vI i) l.length ?_ ?_
  · refine ⟨0, [(l.length : Int)], e0, 1, [vI l.length], by omega, by omega, by rw [← isS_isB]; rfl, ⟨by omega, by simp [Asc]⟩, by simp, by simp, (SubStore.refl σ).upd he0, upd_same, he0, rfl, by simp, rfl, rfl, rfl, rfl, rfl⟩
  · rintro m ⟨s, σ'⟩ ⟨i, stk, e, k, rows, hi, rfl, hB, hasc, hne, hsl, hsub, hrow, hnew, hk, hkr, htk, h3, h9, h10, h11⟩
    simp only at hsub hrow h3 h9 h10 h11
    refine Runs.mix 6 ?_
    (refine Runs.of_step Orc.nothing 300 ?_; simp -implicitDefEqProofs only [BB,seval,effR_some,effD_some,← decide_not,okind,vpre,vpure,intBin,intPre,strBin,strPre,popTo,argSlots,fldV,fldAV,subCells,idxVV,idxAAV,idxSV,sliceV,sliceSV,boundV,szIs,storeOp,storeS,setRowV,eff,extV,buildV,splice,eqSV,fitsL,eqCells,eqCell,minmaxV,capV,binBV,nilCheckV,bytesV,V.cells,V.stays,Orc.nothing,h3,h9,h10,h11])
    refine And.intro (fun hlt => ?_) (fun hge => ?_)
    · have hlt' : i < l.length := by simp at hlt; omega
      have hd : l.drop i = l[i] :: l.drop (i + 1) := List.drop_eq_getElem_cons hlt'
      have hxw : l[i].words.length ≤ 200000000000000 := hl2 _ (List.getElem_mem hlt')
      rw [hd] at hB
      generalize hxe : l[i] = x at *
      simp -implicitDefEqProofs only [BB,seval,effR_some,effD_some,← decide_not,okind,vpre,vpure,intBin,intPre,strBin,strPre,popTo,argSlots,fldV,fldAV,subCells,idxVV,idxAAV,idxSV,sliceV,sliceSV,boundV,szIs,storeOp,storeS,setRowV,eff,extV,buildV,splice,eqSV,fitsL,eqCells,eqCell,minmaxV,capV,binBV,nilCheckV,bytesV,V.cells,V.stays,idxAV_encNs hlt',hxe,loadV_rp_node,h3,h9,h10,h11,Nd.cells]
      intro id5 hid5
      replace hid5 : σ' id5 = none := hid5
      have n5e : e ≠ id5 := by rintro rfl; rw [hrow] at hid5; cases hid5
      have n5n : σ id5 = none := hsub.none hid5
      refine Runs.loop (fun m st => ∃ stk' k', m = stk'.length ∧ pops i stk = pops i stk' ∧ Asc l.length i stk' ∧ stk' ≠ [] ∧ stk'.length ≤ stk.length ∧ st.σ = upd σ' id5 ⟨42, 20, [.agg x.cells]⟩ ∧ k' = stk'.length ∧ k' ≤ rows.length ∧ rows.take k' = stk'.reverse.map vI ∧
        st.s 3 = .own e 0 k' ∧ st.s 4 = vI i ∧ st.s 5 = .ptr id5 0 0 ∧ st.s 9 = encNs l ∧ st.s 10 = vI l.length ∧ st.s 11 = vI i) stk.length ?_ ?_
      · exact ⟨stk, k, rfl, rfl, hasc, hne, Nat.le_refl _, rfl, hk, hkr, htk, h3, rfl, rfl, h9, h10, h11⟩
      · rintro m ⟨s, σ''⟩ ⟨stk', k', rfl, hpop, hasc', hne', hsl', hσ, hk', hkr', htk', h3, h4, h5, h9, h10, h11⟩
        simp only at hσ h3 h4 h5 h9 h10 h11
        subst hσ
        obtain ⟨a, tl, rfl⟩ := List.exists_cons_of_ne_nil hne'
        obtain ⟨htop, htk2⟩ := ends_top hk' htk'
        have hkpos : 1 ≤ k' := by rw [hk']; simp
        have g0 : (k' : Int) - 1 < k' := by omega
        have g1 : (0 : Int) ≤ (k' : Int) - 1 := by omega
        have g2 : (k' : Int) - 1 ≤ k' := by omega
        have g3 : ((k' : Int) - 1).toNat = k' - 1 := by omega
        have hrng : inR .i64 ((k' : Int) - 1) := inR_i64 (by omega) (by omega)
        refine Runs.mix 6 ?_
        (refine Runs.of_step O14 300 ?_; simp -implicitDefEqProofs only [BB,seval,effR_some,effD_some,← decide_not,okind,vpre,vpure,intBin,intPre,strBin,strPre,popTo,argSlots,fldV,fldAV,subCells,idxVV,idxAAV,idxSV,sliceV,sliceSV,boundV,szIs,storeOp,storeS,setRowV,eff,extV,buildV,splice,eqSV,fitsL,eqCells,eqCell,minmaxV,capV,binBV,nilCheckV,bytesV,V.cells,V.stays,h3,h4,h5,h9,h10,h11,upd_ne n5e,hrow,g0,g1,g2,g3,Int.le_refl,Int.toNat_zero,Nat.sub_zero,htop,cR_b,Nd.cells,O14_35 hxw,dec_true (Nd.ok x)])
        refine And.intro (fun h1 => ⟨hrng, And.intro (fun h2 => ?_) (fun h2 => ?_)⟩) (fun h1 => ?_)
        · obtain ⟨b, tl', rfl⟩ : ∃ b tl', tl = b :: tl' := by
            cases tl with
            | nil => simp at hk'; omega
            | cons b tl' => exact ⟨b, tl', rfl⟩
          have hp2 : pops i (a :: b :: tl') = pops i (b :: tl') := by simp [pops, h2]
          have ha2 := hasc'.2
          rw [h2, Int.toNat_natCast] at ha2
          refine ⟨hrng, _, ?_, b :: tl', k' - 1, rfl, by rw [hpop, hp2], ha2, by simp, ?_, ?_, by omega, htk2, rfl⟩
          · simp
          · simp only [List.length_cons] at hsl' ⊢; omega
          · simp only [List.length_cons] at hk' ⊢; omega
        all_goals
          have hps : pops i (a :: tl) = a :: tl := by
            cases tl with
            | nil => rfl
            | cons b tl' =>
              have : a ≠ i := by first
                | simpa using h2
                | (exfalso; simp at hk' h1; omega)
              simp [pops, this]
          obtain ⟨c, t, p1, p2, p3, p4⟩ := pops_law l l.length i hlt' (a :: tl) hasc'
          rw [hps, List.cons.injEq] at p1
          obtain ⟨rfl, rfl⟩ := p1
          have hIs : isB l = if x.ok = true ∧ 1 ≤ x.size ∧ x.size ≤ a - i ∧ (x.kind = 1 ∨ x.size ≤ 1) then isS (l.drop (i + 1)) (i + 1) ((i + x.size) :: a :: tl) else false := by
            rw [hB, isS, hpop, hps]
          have hale := Asc.le p3.2
          have hlenk : (rows.take k').length = k' := by simp; omega
          have hstk : k' ≤ i + 1 := by rw [hk']; omega
          have happ : x.ok = true ∧ 1 ≤ x.size ∧ x.size ≤ a - i ∧ (x.kind = 1 ∨ x.size ≤ 1) → ∀ (X Y : Ob) (id id1 : Nat), upd σ' id5 X id = none → upd (upd σ' id5 X) id Y id1 = none →
              isB l = isS (l.drop (i + 1)) (i + 1) ((i + x.size) :: a :: tl) ∧ Asc l.length (i + 1) ((i + x.size) :: a :: tl) ∧ SubStore σ (upd (del (upd (upd σ' id5 X) id Y) e) id1 ⟨3, 1, rows.take k' ++ [.int .i64 (i + x.size)]⟩) ∧ σ id1 = none ∧
              (rows.take k' ++ [V.int .i64 (i + x.size)]).take (k' + 1) = ((i + x.size) :: a :: tl).reverse.map vI := by
            intro hc X Y id id1 hid hid1
            rw [upd_none] at hid
            rw [upd_none, upd_none] at hid1
            rw [if_pos hc] at hIs
            refine ⟨hIs, ⟨by omega, ?_, p3.2⟩, ?_, hsub.none hid1.2.2, ?_⟩
            · have : (i + x.size).toNat = i + x.size.toNat := by omega
              omega
            · exact SubStore.updK (SubStore.delK ((hsub.updK n5n).updK (hsub.none hid.2)) hnew) (hsub.none hid1.2.2)
            · rw [List.take_of_length_le (by simp; omega), htk']
              simp
          refine And.intro (fun q1 => And.intro (fun q2 => ⟨hrng, inR_i64 (by omega) (by omega), And.intro (fun q3 => And.intro (fun q4 => And.intro (fun q5 => ?_) (fun q5 => ?_)) (fun q4 => ?_)) (fun q3 => ?_)⟩) (fun q2 => ?_)) (fun q1 => ?_)
          · refine RetV.pure (hsub.upd hid5) ?_
            rw [hIs, if_neg]
            rintro ⟨c1, c2, c3, c4⟩
            omega
          · refine ⟨inR_i64 (by omega) (by omega), ?_⟩
            intro id hid
            have hid' := (upd_none.1 hid).2
            have nie : e ≠ id := by rintro rfl; rw [hrow] at hid'; cases hid'
            have hd1 : ∀ σ, σ e = some ⟨3, 1, rows⟩ → dstRows σ 3 1 (.own e 0 k') = some (rows.take k', some e) := by
              intro σ hσ
              simp only [dstRows,hσ]
              rw [if_pos ⟨trivial, trivial, trivial, hkr'⟩]
            have hs1 : ∀ σ, σ id = some ⟨3, 1, [.int .i64 (i + x.size)]⟩ → srcRows σ 1 (.own id 0 1) = some [.int .i64 (i + x.size)] := by
              intro σ hσ
              simp only [srcRows,hσ]
              rw [if_pos (by simp)]
              simp
            have hb : (k' + 1) * 9 ≤ 140737488355328 := by omega
            simp -implicitDefEqProofs only [BB,seval,effR_some,effD_some,← decide_not,okind,vpre,vpure,intBin,intPre,strBin,strPre,popTo,argSlots,fldV,fldAV,subCells,idxVV,idxAAV,idxSV,sliceV,sliceSV,boundV,szIs,storeOp,storeS,setRowV,eff,extV,buildV,splice,eqSV,fitsL,eqCells,eqCell,minmaxV,capV,binBV,nilCheckV,bytesV,V.cells,V.stays,hd1,hs1,upd_ne n5e,upd_ne nie,hrow,hlenk,hb,delO,h3,h4,h5,h9,h10,h11]
            intro id1 hid1
            obtain ⟨z1, z2, z3, z4, z5⟩ := happ ⟨by simpa using q1, by omega, by omega, by first | (left; simpa using q4) | (right; simp at q5; omega)⟩ _ _ id id1 hid hid1
            refine ⟨inR_i64 (by omega) (by omega), _, ?_, i + 1, _, id1, k' + 1, _, by omega, rfl, z1, z2, by simp, ?_, z3, upd_same, z4, ?_, ?_, z5, rfl, ?_⟩
            · omega
            · simp only [List.length_cons] at hk' hsl' ⊢; omega
            · simp only [List.length_cons] at hk' ⊢; omega
            · simp; omega
            · simp
          · refine ⟨inR_i64 (by omega) (by omega), ?_⟩
            intro id hid
            have hid' := (upd_none.1 hid).2
            have nie : e ≠ id := by rintro rfl; rw [hrow] at hid'; cases hid'
            have hd1 : ∀ σ, σ e = some ⟨3, 1, rows⟩ → dstRows σ 3 1 (.own e 0 k') = some (rows.take k', some e) := by
              intro σ hσ
              simp only [dstRows,hσ]
              rw [if_pos ⟨trivial, trivial, trivial, hkr'⟩]
            have hs1 : ∀ σ, σ id = some ⟨3, 1, [.int .i64 (i + x.size)]⟩ → srcRows σ 1 (.own id 0 1) = some [.int .i64 (i + x.size)] := by
              intro σ hσ
              simp only [srcRows,hσ]
              rw [if_pos (by simp)]
              simp
            have hb : (k' + 1) * 9 ≤ 140737488355328 := by omega
            simp -implicitDefEqProofs only [BB,seval,effR_some,effD_some,← decide_not,okind,vpre,vpure,intBin,intPre,strBin,strPre,popTo,argSlots,fldV,fldAV,subCells,idxVV,idxAAV,idxSV,sliceV,sliceSV,boundV,szIs,storeOp,storeS,setRowV,eff,extV,buildV,splice,eqSV,fitsL,eqCells,eqCell,minmaxV,capV,binBV,nilCheckV,bytesV,V.cells,V.stays,hd1,hs1,upd_ne n5e,upd_ne nie,hrow,hlenk,hb,delO,h3,h4,h5,h9,h10,h11]
            intro id1 hid1
            obtain ⟨z1, z2, z3, z4, z5⟩ := happ ⟨by simpa using q1, by omega, by omega, by first | (left; simpa using q4) | (right; simp at q5; omega)⟩ _ _ id id1 hid hid1
            refine ⟨inR_i64 (by omega) (by omega), _, ?_, i + 1, _, id1, k' + 1, _, by omega, rfl, z1, z2, by simp, ?_, z3, upd_same, z4, ?_, ?_, z5, rfl, ?_⟩
            · omega
            · simp only [List.length_cons] at hk' hsl' ⊢; omega
            · simp only [List.length_cons] at hk' ⊢; omega
            · simp; omega
            · simp
          · refine RetV.pure (hsub.upd hid5) ?_
            rw [hIs, if_neg]
            rintro ⟨c1, c2, c3, c4⟩
            omega
          · refine RetV.pure (hsub.upd hid5) ?_
            rw [hIs, if_neg]
            rintro ⟨c1, c2, c3, c4⟩
            omega
          · refine RetV.pure (hsub.upd hid5) ?_
            rw [hIs, if_neg]
            rintro ⟨c1, c2, c3, c4⟩
            exact q1 (by simp [c1])
    · have hi' : i = l.length := by simp at hge; omega
      refine RetV.pure hsub ?_
      rw [hB, hi', List.drop_length]; rfl
end Go.Vc
namespace Go.Vc
open Go.Proofs
abbrev kept (i : Int) (l : List Int) : List Int := l.filter fun n => !decide (n ≤ i)
end Go.Vc
namespace Go.Vc
open Go.Proofs
theorem Reads.nils (σ : Store) : Reads σ 1 false .nils [] := ⟨rfl, fun i v h => by simp at h⟩
end Go.Vc
namespace Go.Vc
open Go.Proofs
theorem effR_app {P : Program} {n : Nat} {Q : St → Prop} {k : List It} {O : Orc P} {f : Nat} {d : Option Nat} {l : List VIns} {v : Nat → V} {ob : Ob} {s : Nat → V} {σ : Store} {e : Nat}
    (h : ∀ id σ', SubStore (del σ e) σ' → σ' id = some ob → σ id = none → step P O n f (.r (.ops l :: k)) ⟨putO s d (v id), σ'⟩ Q) :
    effR P O n f l k d ⟨s, σ⟩ Q (some fun id => (v id, Vc.upd (del σ e) id ob)) := by
  rw [effR_some]
  refine fun id hid => h id _ ((SubStore.refl _).upd ?_) upd_same hid
  by_cases e' : id = e
  · simp [del, e']
  · rw [del_ne e']; exact hid
def EndsV (K σ : Store) (v : V) (ends : List Int) (B : Nat) : Prop :=
  (v = .nils ∧ ends = []) ∨ ∃ (e k : Nat) (full : List Int), v = .own e 0 k ∧ σ e = some ⟨3, 1, full.map vI⟩ ∧ K e = none ∧ k ≤ full.length ∧ full.length ≤ B ∧ full.take k = ends
theorem EndsV.new {K σ σ' : Store} {v : V} {ends : List Int} {B id : Nat} {o : Ob} (h : EndsV K σ v ends B) (hs : SubStore σ σ') (hid : σ id = none) : EndsV (upd K id o) σ' v ends B := by
  rcases h with h | ⟨e, k, full, h0, h1, h2, h3⟩
  · exact .inl h
  · exact .inr ⟨e, k, full, h0, hs _ _ h1, by rw [upd_ne (ne_new h1 hid)]; exact h2, h3⟩
end Go.Vc
namespace Go.Vc
open Go.Proofs
theorem loadV_rp_encI (σ : Store) (l : List Int) : loadV σ false 1 (.rp (encI l)) = some (encI l) := rfl
theorem encI_cells (l : List Int) : (encI l).cells = [encI l] := rfl
theorem encI_stays (l : List Int) : (encI l).stays = true := rfl
set_option maxRecDepth 100000 in
theorem own_o (l : List Nd) (hl : l.length ≤ 10000 ∧ ∀ x ∈ l, x.words.length ≤ 1000000000) (σ : Store) : Contract Try.prog 6 [encNs l] σ fun r σ' => SubStore σ σ' ∧ OutV σ σ' 42 20 r (l.map encN) := by
  obtain ⟨hl1, hl2⟩ := hl
  refine Contract.of_runs Try.func6 e6 k6 (by simp [c6]) ?_
  refine Runs.mix 6 ?_
  (refine Runs.of_step Orc.nothing 300 ?_; simp -implicitDefEqProofs only [BB,seval,effR_some,effD_some,← decide_not,okind,vpre,vpure,intBin,intPre,strBin,strPre,popTo,argSlots,fldV,fldAV,subCells,idxVV,idxAAV,idxSV,sliceV,sliceSV,boundV,szIs,storeOp,storeS,setRowV,eff,extV,buildV,splice,eqSV,fitsL,eqCells,eqCell,minmaxV,capV,binBV,nilCheckV,bytesV,V.cells,V.stays,Orc.nothing,c6])
  refine Runs.loop (fun m st => ∃ i : Nat, i ≤ l.length ∧ m = l.length - i ∧ SubStore σ st.σ ∧ OutV σ st.σ 42 20 (st.s 3) ((l.take i).map encN) ∧ st.s 0 = encNs l ∧ st.s 4 = vI i) l.length ?_ ?_
  · exact ⟨0, by omega, by omega, SubStore.refl σ, .inl ⟨rfl, rfl⟩, rfl, rfl⟩
  · rintro m ⟨s, σ'⟩ ⟨i, hi, rfl, hsub, hout, h0, h4⟩
    simp only at hsub hout h0 h4
    rcases hout with ⟨h3, hr0⟩ | ⟨id, h3, hrow, hnew⟩
    · refine Runs.mix 6 ?_
      (refine Runs.of_step Orc.nothing 30 ?_; simp -implicitDefEqProofs only [BB,seval,← decide_not,okind,vpre,vpure,intBin,intPre,strBin,strPre,popTo,argSlots,fldV,fldAV,subCells,idxVV,idxAAV,idxSV,sliceV,sliceSV,boundV,szIs,storeOp,storeS,setRowV,eff,extV,buildV,splice,eqSV,fitsL,eqCells,eqCell,minmaxV,capV,binBV,nilCheckV,bytesV,V.cells,V.stays,s_zero,Orc.nothing,h0,h3,h4,lenV_encNs])
      refine And.intro (fun hlt => ?_) (fun hge => ?_)
      · have hlt' : i < l.length := by omega
        have hxw : l[i].words.length ≤ 1000000000 := hl2 _ (List.getElem_mem hlt')
        have htk : (l.take (i + 1)).map encN = (l.take i).map encN ++ [encN l[i]] := by rw [List.take_succ_eq_append_getElem hlt', List.map_append]; rfl
        generalize hxe : l[i] = x at *
        simp -implicitDefEqProofs only [BB,seval,← decide_not,okind,vpre,vpure,intBin,intPre,strBin,strPre,popTo,argSlots,fldV,fldAV,subCells,idxVV,idxAAV,idxSV,sliceV,sliceSV,boundV,szIs,storeOp,storeS,setRowV,eff,extV,buildV,splice,eqSV,fitsL,eqCells,eqCell,minmaxV,capV,binBV,nilCheckV,bytesV,V.cells,V.stays,idxAV_encNs hlt',hxe,Nd.cells,h0,h3,h4,s_zero]
        refine effR_new fun id5 σ1 s1 a5 f5 => ?_
        simp -implicitDefEqProofs only [BB,seval,← decide_not,okind,vpre,vpure,intBin,intPre,strBin,strPre,popTo,argSlots,fldV,fldAV,subCells,idxVV,idxAAV,idxSV,sliceV,sliceSV,boundV,szIs,storeOp,storeS,setRowV,eff,extV,buildV,splice,eqSV,fitsL,eqCells,eqCell,minmaxV,capV,binBV,nilCheckV,bytesV,V.cells,V.stays,a5,h0,h3,h4,s_zero]
        refine effR_new fun id16 σ2 s2 a16 f16 => ?_
        have a5 := s2 id5 _ upd_same
        have n5 : id5 ≠ id16 := by rintro rfl; rw [upd_same] at f16; cases f16
        have hs : srcRows σ2 1 (encI x.words) = some (x.words.map vI) := by simp [encI, srcRows]
        have hd : dstRows σ2 3 1 (.own id16 0 0) = some ([], some id16) := by
          simp only [dstRows,a16]
          rw [if_pos (by simp)]
          simp
        have hb : x.words.length * 9 ≤ 140737488355328 := by omega
        simp -implicitDefEqProofs only [BB,seval,← decide_not,okind,vpre,vpure,intBin,intPre,strBin,strPre,popTo,argSlots,fldV,fldAV,subCells,idxVV,idxAAV,idxSV,sliceV,sliceSV,boundV,szIs,storeOp,storeS,setRowV,eff,extV,buildV,splice,eqSV,fitsL,eqCells,eqCell,minmaxV,capV,binBV,nilCheckV,bytesV,V.cells,V.stays,idxAV_encNs hlt',hxe,loadV_rp_encI,Nd.cells,hs,hd,hb,delO,List.length_map,Nat.zero_add,h0,h3,h4,s_zero]
        refine effR_app fun id22 σ3 s3 a22 f22 => ?_
        have a5 := s3 id5 _ (by rw [del_ne n5]; exact a5)
        have n522 : id5 ≠ id22 := by rintro rfl; rw [s2 id5 _ upd_same] at f22; cases f22
        simp -implicitDefEqProofs only [BB,seval,← decide_not,okind,vpre,vpure,intBin,intPre,strBin,strPre,popTo,argSlots,fldV,fldAV,subCells,idxVV,idxAAV,idxSV,sliceV,sliceSV,boundV,szIs,storeOp,storeS,setRowV,eff,extV,buildV,splice,eqSV,fitsL,eqCells,eqCell,minmaxV,capV,binBV,nilCheckV,bytesV,V.cells,V.stays,s_zero]
        refine Runs.freeze [0, 3, 4, 5] 22 id22 0 x.words.length (SubStore.of_del σ3 id22) a22 (by simp [del]) rfl (by simp) ?_
        have a5' : del σ3 id22 id5 = _ := (del_ne n522).trans a5
        have hfold : List.take x.words.length (List.map vI x.words) = List.map vI x.words := List.take_of_length_le (by simp)
        have hs3 : SubStore σ (del σ3 id22) := (((((hsub.trans s1).updK (hsub.none f5)).trans s2).delK ((hsub.trans s1).updK (hsub.none f5) |>.none f16)).trans s3).delK (((hsub.trans s1).updK (hsub.none f5)).trans s2 |>.none f22)
        (refine Runs.of_step Orc.nothing 300 ?_; simp -implicitDefEqProofs only [BB,seval,← decide_not,okind,vpre,vpure,intBin,intPre,strBin,strPre,popTo,argSlots,fldV,fldAV,subCells,idxVV,idxAAV,idxSV,sliceV,sliceSV,boundV,szIs,storeOp,storeS,setRowV,eff,extV,buildV,splice,eqSV,fitsL,eqCells,eqCell,minmaxV,capV,binBV,nilCheckV,bytesV,V.cells,V.stays,Orc.nothing,a5',hfold,h0,h3,h4])
        refine effR_new fun id26 σ4 s4 a26 f26 => ?_
        have hs2 : srcRows σ4 20 (.own id26 0 1) = some [encN x] := by
          simp only [srcRows,a26]
          rw [if_pos (by simp)]
          simp [encN, Nd.cells, encI]
        have hs4 := (hs3.updK (hsub.none f5)).trans s4
        have hd2 : dstRows σ4 42 20 .nils = some ([], none) := rfl
        simp -implicitDefEqProofs only [BB,seval,← decide_not,okind,vpre,vpure,intBin,intPre,strBin,strPre,popTo,argSlots,fldV,fldAV,subCells,idxVV,idxAAV,idxSV,sliceV,sliceSV,boundV,szIs,storeOp,storeS,setRowV,eff,extV,buildV,splice,eqSV,fitsL,eqCells,eqCell,minmaxV,capV,binBV,nilCheckV,bytesV,V.cells,V.stays,hs2,hd2,delO,Nat.reduceLeDiff,h0,h3,h4]
        refine effR_new fun id27 σ5 s5 a27 f27 => ?_
        simp -implicitDefEqProofs only [BB,seval,← decide_not,okind,vpre,vpure,intBin,intPre,strBin,strPre,popTo,argSlots,fldV,fldAV,subCells,idxVV,idxAAV,idxSV,sliceV,sliceSV,boundV,szIs,storeOp,storeS,setRowV,eff,extV,buildV,splice,eqSV,fitsL,eqCells,eqCell,minmaxV,capV,binBV,nilCheckV,bytesV,V.cells,V.stays,h0,h3,h4]
        refine ⟨inR_i64 (by omega) (by omega), _, ?_, i + 1, by omega, rfl, hs4.trans s5, .inr ⟨id27, ?_, ?_, hs4.none f27⟩, by simp⟩
        · omega
        · rw [htk, hr0]; rfl
        · rw [htk, hr0, a27]; rfl
      · have hie : i = l.length := by omega
        subst hie
        rw [List.take_length] at hr0
        exact ⟨_, _, SubStore.refl _, Wk.refl (SubStore.refl _) _, hsub, .inl ⟨rfl, hr0⟩⟩
    · have hln : (l.take i).length = i := by simp; omega
      have hln2 : ((l.take i).map encN).length = i := by simpa using hln
      rw [hln2] at h3
      refine Runs.mix 6 ?_
      (refine Runs.of_step Orc.nothing 30 ?_; simp -implicitDefEqProofs only [BB,seval,← decide_not,okind,vpre,vpure,intBin,intPre,strBin,strPre,popTo,argSlots,fldV,fldAV,subCells,idxVV,idxAAV,idxSV,sliceV,sliceSV,boundV,szIs,storeOp,storeS,setRowV,eff,extV,buildV,splice,eqSV,fitsL,eqCells,eqCell,minmaxV,capV,binBV,nilCheckV,bytesV,V.cells,V.stays,s_zero,Orc.nothing,h0,h3,h4,lenV_encNs])
      refine And.intro (fun hlt => ?_) (fun hge => ?_)
      · have hlt' : i < l.length := by omega
        have hxw : l[i].words.length ≤ 1000000000 := hl2 _ (List.getElem_mem hlt')
        have htk : (l.take (i + 1)).map encN = (l.take i).map encN ++ [encN l[i]] := by rw [List.take_succ_eq_append_getElem hlt', List.map_append]; rfl
        have hidlen : i ≤ 1000000000 := by omega
        generalize hxe : l[i] = x at *
        simp -implicitDefEqProofs only [BB,seval,← decide_not,okind,vpre,vpure,intBin,intPre,strBin,strPre,popTo,argSlots,fldV,fldAV,subCells,idxVV,idxAAV,idxSV,sliceV,sliceSV,boundV,szIs,storeOp,storeS,setRowV,eff,extV,buildV,splice,eqSV,fitsL,eqCells,eqCell,minmaxV,capV,binBV,nilCheckV,bytesV,V.cells,V.stays,idxAV_encNs hlt',hxe,Nd.cells,h0,h3,h4,s_zero]
        refine effR_new fun id5 σ1 s1 a5 f5 => ?_
        simp -implicitDefEqProofs only [BB,seval,← decide_not,okind,vpre,vpure,intBin,intPre,strBin,strPre,popTo,argSlots,fldV,fldAV,subCells,idxVV,idxAAV,idxSV,sliceV,sliceSV,boundV,szIs,storeOp,storeS,setRowV,eff,extV,buildV,splice,eqSV,fitsL,eqCells,eqCell,minmaxV,capV,binBV,nilCheckV,bytesV,V.cells,V.stays,a5,h0,h3,h4,s_zero]
        refine effR_new fun id16 σ2 s2 a16 f16 => ?_
        have a5 := s2 id5 _ upd_same
        have n5 : id5 ≠ id16 := by rintro rfl; rw [upd_same] at f16; cases f16
        have hs : srcRows σ2 1 (encI x.words) = some (x.words.map vI) := by simp [encI, srcRows]
        have hd : dstRows σ2 3 1 (.own id16 0 0) = some ([], some id16) := by
          simp only [dstRows,a16]
          rw [if_pos (by simp)]
          simp
        have hb : x.words.length * 9 ≤ 140737488355328 := by omega
        simp -implicitDefEqProofs only [BB,seval,← decide_not,okind,vpre,vpure,intBin,intPre,strBin,strPre,popTo,argSlots,fldV,fldAV,subCells,idxVV,idxAAV,idxSV,sliceV,sliceSV,boundV,szIs,storeOp,storeS,setRowV,eff,extV,buildV,splice,eqSV,fitsL,eqCells,eqCell,minmaxV,capV,binBV,nilCheckV,bytesV,V.cells,V.stays,idxAV_encNs hlt',hxe,loadV_rp_encI,Nd.cells,hs,hd,hb,delO,List.length_map,Nat.zero_add,h0,h3,h4,s_zero]
        refine effR_app fun id22 σ3 s3 a22 f22 => ?_
        have a5 := s3 id5 _ (by rw [del_ne n5]; exact a5)
        have n522 : id5 ≠ id22 := by rintro rfl; rw [s2 id5 _ upd_same] at f22; cases f22
        simp -implicitDefEqProofs only [BB,seval,← decide_not,okind,vpre,vpure,intBin,intPre,strBin,strPre,popTo,argSlots,fldV,fldAV,subCells,idxVV,idxAAV,idxSV,sliceV,sliceSV,boundV,szIs,storeOp,storeS,setRowV,eff,extV,buildV,splice,eqSV,fitsL,eqCells,eqCell,minmaxV,capV,binBV,nilCheckV,bytesV,V.cells,V.stays,s_zero]
        refine Runs.freeze [0, 3, 4, 5] 22 id22 0 x.words.length (SubStore.of_del σ3 id22) a22 (by simp [del]) rfl (by simp) ?_
        have a5' : del σ3 id22 id5 = _ := (del_ne n522).trans a5
        have hfold : List.take x.words.length (List.map vI x.words) = List.map vI x.words := List.take_of_length_le (by simp)
        have hs3 : SubStore σ (del σ3 id22) := (((((hsub.trans s1).updK (hsub.none f5)).trans s2).delK ((hsub.trans s1).updK (hsub.none f5) |>.none f16)).trans s3).delK (((hsub.trans s1).updK (hsub.none f5)).trans s2 |>.none f22)
        (refine Runs.of_step Orc.nothing 300 ?_; simp -implicitDefEqProofs only [BB,seval,← decide_not,okind,vpre,vpure,intBin,intPre,strBin,strPre,popTo,argSlots,fldV,fldAV,subCells,idxVV,idxAAV,idxSV,sliceV,sliceSV,boundV,szIs,storeOp,storeS,setRowV,eff,extV,buildV,splice,eqSV,fitsL,eqCells,eqCell,minmaxV,capV,binBV,nilCheckV,bytesV,V.cells,V.stays,Orc.nothing,a5',hfold,h0,h3,h4])
        refine effR_new fun id26 σ4 s4 a26 f26 => ?_
        have hs2 : srcRows σ4 20 (.own id26 0 1) = some [encN x] := by
          simp only [srcRows,a26]
          rw [if_pos (by simp)]
          simp [encN, Nd.cells, encI]
        have hs4 := (hs3.updK (hsub.none f5)).trans s4
        have e1 := s1 id _ hrow
        have n5i : id ≠ id5 := ne_new hrow f5
        have e2 := s2 id _ ((upd_ne n5i).trans e1)
        have n16i : id ≠ id16 := ne_new ((upd_ne n5i).trans e1) f16
        have n22i : id ≠ id22 := ne_new e2 f22
        have e3 := s3 id _ ((del_ne n16i).trans e2)
        have e4 := s4 id _ ((upd_ne n5i).trans ((del_ne n22i).trans e3))
        have hd2 : dstRows σ4 42 20 (.own id 0 i) = some ((l.take i).map encN, some id) := by
          simp only [dstRows,e4]
          rw [if_pos ⟨trivial, trivial, trivial, by rw [hln2]; exact Nat.le_refl _⟩, List.take_of_length_le (by rw [hln2]; exact Nat.le_refl _)]
        have hb2 : (i + 1) * 177 ≤ 140737488355328 := by omega
        simp -implicitDefEqProofs only [BB,seval,← decide_not,okind,vpre,vpure,intBin,intPre,strBin,strPre,popTo,argSlots,fldV,fldAV,subCells,idxVV,idxAAV,idxSV,sliceV,sliceSV,boundV,szIs,storeOp,storeS,setRowV,eff,extV,buildV,splice,eqSV,fitsL,eqCells,eqCell,minmaxV,capV,binBV,nilCheckV,bytesV,V.cells,V.stays,hs2,hd2,delO,hln2,hb2,h0,h3,h4]
        refine effR_app fun id27 σ5 s5 a27 f27 => ?_
        simp -implicitDefEqProofs only [BB,seval,← decide_not,okind,vpre,vpure,intBin,intPre,strBin,strPre,popTo,argSlots,fldV,fldAV,subCells,idxVV,idxAAV,idxSV,sliceV,sliceSV,boundV,szIs,storeOp,storeS,setRowV,eff,extV,buildV,splice,eqSV,fitsL,eqCells,eqCell,minmaxV,capV,binBV,nilCheckV,bytesV,V.cells,V.stays,h0,h3,h4]
        refine ⟨inR_i64 (by omega) (by omega), _, ?_, i + 1, by omega, rfl, (hs4.delK hnew).trans s5, .inr ⟨id27, ?_, ?_, hs4.none f27⟩, by simp⟩
        · omega
        · rw [htk]; simp; omega
        · rw [htk]; exact a27
      · have hie : i = l.length := by omega
        subst hie
        rw [List.take_length] at hrow
        exact ⟨_, _, SubStore.refl _, Wk.refl (SubStore.refl _) _, hsub, .inr ⟨id, by rw [List.length_map], hrow, hnew⟩⟩
theorem own_c (l : List Nd) (hl : l.length ≤ 10000 ∧ ∀ x ∈ l, x.words.length ≤ 1000000000) : PFun Try.prog 6 [encNs l] (encNs l) := fun σ =>
  (own_o l hl σ).weak fun _ _ h => h.2.retv h.1 rfl
end Go.Vc
namespace Go.Vc
open Go.Proofs
theorem styEq (s t : Sty) : (decide (s.top = t.top) && (decide (s.bottom = t.bottom) && (decide (s.padTop = t.padTop) && (decide (s.padBottom = t.padBottom) && (decide (s.inset = t.inset) && (decide (s.orphans = t.orphans) && (decide (s.widows = t.widows) && (decide (s.head = t.head) &&
    (decide (s.before = t.before) && (decide (s.after = t.after) && (decide (s.inside = t.inside) && decide (s.clear = t.clear)))))))))))) = decide (s = t) := by
  rw [Bool.eq_iff_iff]
  cases s; cases t
  simp
set_option maxRecDepth 100000 in
theorem one5_c (a b : Nd) (ha : a.words.length ≤ 200000000000000) (hb : b.words.length ≤ 200000000000000) : PFun Try.prog 30 [encN a, encN b] (.bool (decide (a = b))) := fun σ => by
  refine Contract.of_runs Try.func30 e30 k30 (by simp [c30]) ?_
  refine Runs.mix 6 ?_
  (refine Runs.of_step Orc.nothing 300 ?_; simp -implicitDefEqProofs only [BB,seval,← decide_not,okind,vpre,vpure,intBin,intPre,strBin,strPre,popTo,argSlots,fldV,fldAV,subCells,idxVV,idxAAV,idxSV,sliceV,sliceSV,boundV,szIs,storeOp,storeS,setRowV,eff,extV,buildV,splice,eqSV,fitsL,eqCells,eqCell,minmaxV,capV,binBV,nilCheckV,bytesV,V.cells,V.stays,Orc.nothing,c30,encN,Nd.cells])
  refine effR_new fun id2 σ1 s1 a2 f2 => ?_
  simp -implicitDefEqProofs only [BB,seval,← decide_not,okind,vpre,vpure,intBin,intPre,strBin,strPre,popTo,argSlots,fldV,fldAV,subCells,idxVV,idxAAV,idxSV,sliceV,sliceSV,boundV,szIs,storeOp,storeS,setRowV,eff,extV,buildV,splice,eqSV,fitsL,eqCells,eqCell,minmaxV,capV,binBV,nilCheckV,bytesV,V.cells,V.stays,a2]
  refine effR_new fun id3 σ2 s2 a3 f3 => ?_
  have n23 := ne_new a2 f3
  have a2 := s2 _ _ a2
  have hs := s1.trans s2
  simp -implicitDefEqProofs only [BB,seval,← decide_not,okind,vpre,vpure,intBin,intPre,strBin,strPre,popTo,argSlots,fldV,fldAV,subCells,idxVV,idxAAV,idxSV,sliceV,sliceSV,boundV,szIs,storeOp,storeS,setRowV,eff,extV,buildV,splice,eqSV,fitsL,eqCells,eqCell,minmaxV,capV,binBV,nilCheckV,bytesV,V.cells,V.stays,a2,a3,styEq,lenV_encI]
  refine And.intro (fun c1 => And.intro (fun c2 => And.intro (fun c3 => And.intro (fun c4 => And.intro (fun c5 => And.intro (fun c6 => And.intro (fun c7 => And.intro (fun c8 => And.intro (fun c9 => ?_) (fun c9 => ?_)) (fun c8 => ?_)) (fun c7 => ?_)) (fun c6 => ?_)) (fun c5 => ?_)) (fun c4 => ?_)) (fun c3 => ?_)) (fun c2 => ?_)) (fun c1 => ?_)
  case refine_2 =>
    have hl : a.words.length = b.words.length := by
      have : (a.words.length : Int) = b.words.length := by simpa using c9
      omega
    have hab : a = b ↔ a.words = b.words := by
      constructor
      · rintro rfl; rfl
      · intro hw
        cases a; cases b
        simp_all
    refine Runs.loop (fun m st => ∃ i : Nat, i ≤ a.words.length ∧ m = a.words.length - i ∧ a.words.take i = b.words.take i ∧ st.σ = σ2 ∧ st.s 2 = .ptr id2 0 0 ∧ st.s 3 = .ptr id3 0 0 ∧ st.s 5 = vI i) a.words.length ?_ ?_
    · exact ⟨0, by omega, by omega, rfl, rfl, rfl, rfl, rfl⟩
    · rintro m ⟨s, σ'⟩ ⟨i, hi, rfl, ht, hσ, h2, h3, h5⟩
      simp only at hσ h2 h3 h5
      subst hσ
      refine Runs.mix 6 ?_
      (refine Runs.of_step Orc.nothing 300 ?_; simp -implicitDefEqProofs only [BB,seval,effR_some,effD_some,← decide_not,okind,vpre,vpure,intBin,intPre,strBin,strPre,popTo,argSlots,fldV,fldAV,subCells,idxVV,idxAAV,idxSV,sliceV,sliceSV,boundV,szIs,storeOp,storeS,setRowV,eff,extV,buildV,splice,eqSV,fitsL,eqCells,eqCell,minmaxV,capV,binBV,nilCheckV,bytesV,V.cells,V.stays,Orc.nothing,h2,h3,h5,a2,a3,lenV_encI])
      refine And.intro (fun hlt => ?_) (fun hge => ?_)
      · have hlt' : i < a.words.length := by omega
        have hlt2 : i < b.words.length := by omega
        simp -implicitDefEqProofs only [BB,seval,effR_some,effD_some,← decide_not,okind,vpre,vpure,intBin,intPre,strBin,strPre,popTo,argSlots,fldV,fldAV,subCells,idxVV,idxAAV,idxSV,sliceV,sliceSV,boundV,szIs,storeOp,storeS,setRowV,eff,extV,buildV,splice,eqSV,fitsL,eqCells,eqCell,minmaxV,capV,binBV,nilCheckV,bytesV,V.cells,V.stays,idxAV_encI hlt',idxAV_encI hlt2,a2,a3,h2,h3,h5]
        refine And.intro (fun hd => ?_) (fun hd => ?_)
        · refine RetV.pure hs ?_
          rw [V.bool.injEq]; symm
          rw [decide_eq_false_iff_not, hab]
          intro hw
          apply hd
          simp [hw]
        · refine ⟨inR_i64 (by omega) (by omega), _, ?_, i + 1, by omega, rfl, ?_, ?_⟩
          · omega
          · rw [List.take_succ_eq_append_getElem hlt', List.take_succ_eq_append_getElem hlt2, ht]
            have : a.words[i] = b.words[i] := by simpa using hd
            rw [this]
          · simp
      · have hie : i = a.words.length := by omega
        refine RetV.pure hs ?_
        rw [V.bool.injEq]; symm
        rw [decide_eq_true_eq, hab]
        rw [hie, List.take_length] at ht
        rw [ht, hl, List.take_length]
  all_goals (refine RetV.pure hs ?_; rw [V.bool.injEq]; symm; rw [decide_eq_false_iff_not]; rintro rfl; simp at *)
def ndOf : V → Option Nd
  | .agg [.int .i64 a0, .int .i64 a1, .int .i64 a2, .int .i64 a3, .int .i64 a4, .int .i64 a5, .int .i64 a6, .int .i64 a7, .int .i64 a8, .int .i64 a9, .int .i64 a10, .int .i64 a11, .int .i64 a12, .int .i64 a13, .int .i64 a14, .int .i64 a15, .sl 1 rows, .int .i64 a17, .int .i64 a18, .int .i64 a19] =>
    (intsOf rows).bind fun ws => if ws.length ≤ 200000000000000 then some ⟨a0, a1, ⟨a2, a3, a4, a5, a6, a7, a8, a9, a10, a11, a12, a13⟩, a14, a15, ws, a17, a18, a19⟩ else none
  | _ => none
theorem ndOf_eq {v : V} {x : Nd} (h : ndOf v = some x) : v = encN x ∧ x.words.length ≤ 200000000000000 := by
  unfold ndOf at h
  split at h
  · rw [Option.bind_eq_some_iff] at h
    obtain ⟨ws, h1, h2⟩ := h
    split at h2
    · rename_i hw
      simp only [Option.some.injEq] at h2
      subst h2
      rw [intsOf_eq h1]
      exact ⟨rfl, hw⟩
    · cases h2
  · cases h
theorem ndOf_enc {x : Nd} (hw : x.words.length ≤ 200000000000000) : ndOf (.agg [.int .i64 x.kind, .int .i64 x.size, .int .i64 x.st.top, .int .i64 x.st.bottom, .int .i64 x.st.padTop, .int .i64 x.st.padBottom, .int .i64 x.st.inset, .int .i64 x.st.orphans, .int .i64 x.st.widows, .int .i64 x.st.head, .int .i64 x.st.before, .int .i64 x.st.after, .int .i64 x.st.inside, .int .i64 x.st.clear, .int .i64 x.line, .int .i64 x.space, encI x.words, .int .i64 x.side, .int .i64 x.w, .int .i64 x.h]) = some x := by
  show ((intsOf (x.words.map vI)).bind fun ws => if ws.length ≤ 200000000000000 then some (Nd.mk x.kind x.size ⟨x.st.top, x.st.bottom, x.st.padTop, x.st.padBottom, x.st.inset, x.st.orphans, x.st.widows, x.st.head, x.st.before, x.st.after, x.st.inside, x.st.clear⟩ x.line x.space ws x.side x.w x.h) else none) = _
  rw [intsOf_map, Option.bind_some, if_pos hw]
def o22 (f : FuncId) (args : List V) : Option V := if f = 30 then (match args with
  | [v, u] => (ndOf v).bind fun x => (ndOf u).bind fun y => some (.bool (decide (x = y)))
  | _ => none) else none
def O22 : Orc Try.prog where
  get f args _ := o22 f args
  ok f args σ v h := by
    unfold o22 at h
    split at h
    · rename_i hf
      subst hf
      split at h
      · rw [Option.bind_eq_some_iff] at h
        obtain ⟨x, h1, h2⟩ := h
        rw [Option.bind_eq_some_iff] at h2
        obtain ⟨y, h3, h4⟩ := h2
        simp only [Option.some.injEq] at h4
        subst h4
        obtain ⟨rfl, hx⟩ := ndOf_eq h1
        obtain ⟨rfl, hy⟩ := ndOf_eq h3
        exact one5_c x y hx hy σ
      · cases h
    · cases h
theorem O22_38 (v u : V) (σ : Store) : O22.get 30 [v, u] σ = (ndOf v).bind fun x => (ndOf u).bind fun y => some (.bool (decide (x = y))) := rfl
set_option maxRecDepth 100000 in
theorem same5_c (a b : List Nd) (ha : Fine a) (hb : Fine b) : PFun Try.prog 10 [encNs a, encNs b] (.bool (decide (a = b))) := fun σ => by
  refine Contract.of_runs Try.func10 e10 k10 (by simp [c10]) ?_
  refine Runs.mix 6 ?_
  (refine Runs.of_step Orc.nothing 300 ?_; simp -implicitDefEqProofs only [BB,seval,effR_some,effD_some,← decide_not,okind,vpre,vpure,intBin,intPre,strBin,strPre,popTo,argSlots,fldV,fldAV,subCells,idxVV,idxAAV,idxSV,sliceV,sliceSV,boundV,szIs,storeOp,storeS,setRowV,eff,extV,buildV,splice,eqSV,fitsL,eqCells,eqCell,minmaxV,capV,binBV,nilCheckV,bytesV,V.cells,V.stays,Orc.nothing,c10,lenV_encNs])
  refine And.intro (fun hl => ?_) (fun hl => ?_)
  · refine RetV.same ?_
    rw [V.bool.injEq]; symm
    rw [decide_eq_false_iff_not]
    rintro rfl
    simp at hl
  · have hl : a.length = b.length := by
      have : (a.length : Int) = b.length := by simpa using hl
      omega
    refine Runs.loop (fun m st => ∃ i : Nat, i ≤ a.length ∧ m = a.length - i ∧ a.take i = b.take i ∧ st.σ = σ ∧ st.s 0 = encNs a ∧ st.s 1 = encNs b ∧ st.s 5 = vI i) a.length ?_ ?_
    · exact ⟨0, by omega, by omega, rfl, rfl, rfl, rfl, rfl⟩
    · rintro m ⟨s, σ'⟩ ⟨i, hi, rfl, ht, hσ, h0, h1, h5⟩
      simp only at hσ h0 h1 h5
      subst hσ
      have hal := ha.1
      refine Runs.mix 6 ?_
      (refine Runs.of_step O22 300 ?_; simp -implicitDefEqProofs only [BB,seval,effR_some,effD_some,← decide_not,okind,vpre,vpure,intBin,intPre,strBin,strPre,popTo,argSlots,fldV,fldAV,subCells,idxVV,idxAAV,idxSV,sliceV,sliceSV,boundV,szIs,storeOp,storeS,setRowV,eff,extV,buildV,splice,eqSV,fitsL,eqCells,eqCell,minmaxV,capV,binBV,nilCheckV,bytesV,V.cells,V.stays,h0,h1,h5,lenV_encNs])
      refine And.intro (fun hlt => ?_) (fun hge => ?_)
      · have hlt' : i < a.length := by omega
        have hlt2 : i < b.length := by omega
        have hx := ha.2 _ (List.getElem_mem hlt')
        have hy := hb.2 _ (List.getElem_mem hlt2)
        have hta := List.take_succ_eq_append_getElem hlt'
        have htb := List.take_succ_eq_append_getElem hlt2
        have hxe : a[i]? = some a[i] := by simp [hlt']
        have hye : b[i]? = some b[i] := by simp [hlt2]
        generalize hxg : a[i] = x at *
        generalize hyg : b[i] = y at *
        simp -implicitDefEqProofs only [BB,seval,effR_some,effD_some,← decide_not,okind,vpre,vpure,intBin,intPre,strBin,strPre,popTo,argSlots,fldV,fldAV,subCells,idxVV,idxAAV,idxSV,sliceV,sliceSV,boundV,szIs,storeOp,storeS,setRowV,eff,extV,buildV,splice,eqSV,fitsL,eqCells,eqCell,minmaxV,capV,binBV,nilCheckV,bytesV,V.cells,V.stays,idxAV_encNs hlt',idxAV_encNs hlt2,hxg,hyg,Nd.cells,O22_38,ndOf_enc hx,ndOf_enc hy,Option.bind_some,h0,h1,h5]
        refine And.intro (fun hd => ?_) (fun hd => ?_)
        · refine RetV.same ?_
          rw [V.bool.injEq]; symm
          rw [decide_eq_false_iff_not]
          rintro rfl
          rw [hxe] at hye
          simp at hye
          exact hd hye
        · refine ⟨inR_i64 (by omega) (by omega), _, ?_, i + 1, by omega, rfl, ?_, ?_⟩
          · omega
          · rw [hta, htb, ht]
            have : x = y := by simpa using hd
            rw [this]
          · simp
      · have hie : i = a.length := by omega
        refine RetV.same ?_
        rw [V.bool.injEq]; symm
        rw [decide_eq_true_eq]
        rw [hie, List.take_length] at ht
        rw [ht, hl, List.take_length]
end Go.Vc
namespace Go.Vc
open Go.Proofs
def szI (l : List Nd) (i : Nat) : Int := ((l[i]?).map Nd.size).getD 0
def kdI (l : List Nd) (i : Nat) : Int := ((l[i]?).map Nd.kind).getD 0
def hasI (l : List Nd) (a : Int) : Bool := decide (0 ≤ a) && decide (a < l.length)
def holdsI (l : List Nd) (a b : Int) : Bool := hasI l a && (hasI l b && (decide (b ≥ a) && decide (b - a < szI l a.toNat)))
def aboveD (l : List Nd) (a : Nat) : Nat → List Int
  | 0 => []
  | k + 1 => if holdsI l k a then (k : Int) :: aboveD l a k else aboveD l a k
def parD (l : List Nd) (a : Nat) : Nat → Int
  | 0 => -1
  | k + 1 => if holdsI l k a then (k : Int) else parD l a k
def parR (l : List Nd) (a : Nat) : Int := parD l a a
def kidsR (l : List Nd) (a : Int) : List Int := ((List.range l.length).filter fun i => decide (parR l i = a)).map fun (i : Nat) => (i : Int)
def lastEnd (l : List Nd) (into : Int) (ks : List Int) : Int := ks.foldl (fun _ k => k + szI l k.toNat) (into + 1)
def placesR (l : List Nd) (into : Int) : List Int := kidsR l into ++ [lastEnd l into (kidsR l into)]
def blockR (l : List Nd) (a : Int) : Bool := hasI l a && decide (kdI l a.toNat = 1)
def endS (pos many : Int) : List Int → Int
  | [] => -1
  | q :: r => if q = pos ∧ many < (r.length : Int) + 1 then ((q :: r)[many.toNat]?).getD 0 else endS pos many r
def endR (l : List Nd) (into pos many : Int) : Int :=
  if (into ≠ -1 ∧ blockR l into = false) ∨ many < 0 then -1 else endS pos many (placesR l into)
theorem hasI_iff {l : List Nd} {a : Int} : hasI l a = true ↔ 0 ≤ a ∧ a < l.length := by simp [hasI]
theorem szI_eq {l : List Nd} {i : Nat} (h : i < l.length) : szI l i = l[i].size := by simp [szI, h]
theorem kdI_eq {l : List Nd} {i : Nat} (h : i < l.length) : kdI l i = l[i].kind := by simp [kdI, h]
theorem isB_size {l : List Nd} (h : isB l = true) {i : Nat} (hi : i < l.length) : 1 ≤ l[i].size ∧ l[i].size ≤ (l.length : Int) - i ∧ (l[i].kind = 1 ∨ l[i].size ≤ 1) := by
  simp only [isB,Bool.and_eq_true] at h
  exact rowsB_size l (l.length + 1) 0 l.length (by omega) (Nat.le_refl _) h.2 i (by omega) hi hi
theorem idxAV_encNsI {σ : Store} {l : List Nd} {a : Int} (h0 : 0 ≤ a) (h : a.toNat < l.length) : idxAV σ 20 (encNs l) (.int .i64 a) = some (.rp (.agg (Nd.cells l[a.toNat]))) := by
  simp [encNs, idxAV, h0, h, encN]
set_option maxRecDepth 100000 in
theorem has8_c (l : List Nd) (a : Int) : PFun Try.prog 50 [encNs l, vI a] (.bool (hasI l a)) := fun σ => by
  refine Contract.of_runs Try.func50 e50 k50 (by simp [c50]) ?_
  refine Runs.mix 6 ?_
  (refine Runs.of_step Orc.nothing 300 ?_; simp -implicitDefEqProofs only [BB,seval,effR_some,effD_some,← decide_not,okind,vpre,vpure,intBin,intPre,strBin,strPre,popTo,argSlots,fldV,fldAV,subCells,idxVV,idxAAV,idxSV,sliceV,sliceSV,boundV,szIs,storeOp,storeS,setRowV,eff,extV,buildV,splice,eqSV,fitsL,eqCells,eqCell,minmaxV,capV,binBV,nilCheckV,bytesV,V.cells,V.stays,Orc.nothing,c50,lenV_encNs])
  refine And.intro (fun h => ?_) (fun h => ?_)
  · refine RetV.same ?_
    simp [hasI]; omega
  · refine RetV.same ?_
    simp [hasI]; omega
set_option maxRecDepth 100000 in
theorem holds_c (l : List Nd) (hl : l.length ≤ 1000000000) (a b : Int) : PFun Try.prog 29 [encNs l, vI a, vI b] (.bool (holdsI l a b)) := fun σ => by
  refine Contract.of_runs Try.func29 e29 k29 (by simp [c29]) ?_
  refine Runs.mix 8 ?_
  (refine Runs.of_step Orc.nothing 300 ?_; simp -implicitDefEqProofs only [BB,seval,effR_some,effD_some,← decide_not,okind,vpre,vpure,intBin,intPre,strBin,strPre,popTo,argSlots,fldV,fldAV,subCells,idxVV,idxAAV,idxSV,sliceV,sliceSV,boundV,szIs,storeOp,storeS,setRowV,eff,extV,buildV,splice,eqSV,fitsL,eqCells,eqCell,minmaxV,capV,binBV,nilCheckV,bytesV,V.cells,V.stays,Orc.nothing,c29])
  refine Runs.pcall rfl rfl rfl (has8_c l a _) ?_
  cases ha : hasI l a
  · (refine Runs.of_step Orc.nothing 300 ?_; simp -implicitDefEqProofs only [BB,seval,effR_some,effD_some,← decide_not,okind,vpre,vpure,intBin,intPre,strBin,strPre,popTo,argSlots,fldV,fldAV,subCells,idxVV,idxAAV,idxSV,sliceV,sliceSV,boundV,szIs,storeOp,storeS,setRowV,eff,extV,buildV,splice,eqSV,fitsL,eqCells,eqCell,minmaxV,capV,binBV,nilCheckV,bytesV,V.cells,V.stays,Orc.nothing,ha])
    refine RetV.same ?_
    simp [holdsI, ha]
  · (refine Runs.of_step Orc.nothing 300 ?_; simp -implicitDefEqProofs only [BB,seval,effR_some,effD_some,← decide_not,okind,vpre,vpure,intBin,intPre,strBin,strPre,popTo,argSlots,fldV,fldAV,subCells,idxVV,idxAAV,idxSV,sliceV,sliceSV,boundV,szIs,storeOp,storeS,setRowV,eff,extV,buildV,splice,eqSV,fitsL,eqCells,eqCell,minmaxV,capV,binBV,nilCheckV,bytesV,V.cells,V.stays,Orc.nothing,ha])
    refine Runs.pcall rfl rfl rfl (has8_c l b _) ?_
    cases hb : hasI l b
    · (refine Runs.of_step Orc.nothing 300 ?_; simp -implicitDefEqProofs only [BB,seval,effR_some,effD_some,← decide_not,okind,vpre,vpure,intBin,intPre,strBin,strPre,popTo,argSlots,fldV,fldAV,subCells,idxVV,idxAAV,idxSV,sliceV,sliceSV,boundV,szIs,storeOp,storeS,setRowV,eff,extV,buildV,splice,eqSV,fitsL,eqCells,eqCell,minmaxV,capV,binBV,nilCheckV,bytesV,V.cells,V.stays,Orc.nothing,hb])
      refine RetV.same ?_
      simp [holdsI, ha, hb]
    · rw [hasI_iff] at ha hb
      have hlt : a.toNat < l.length := by omega
      (refine Runs.of_step Orc.nothing 300 ?_; simp -implicitDefEqProofs only [BB,seval,effR_some,effD_some,← decide_not,okind,vpre,vpure,intBin,intPre,strBin,strPre,popTo,argSlots,fldV,fldAV,subCells,idxVV,idxAAV,idxSV,sliceV,sliceSV,boundV,szIs,storeOp,storeS,setRowV,eff,extV,buildV,splice,eqSV,fitsL,eqCells,eqCell,minmaxV,capV,binBV,nilCheckV,bytesV,V.cells,V.stays,Orc.nothing,hb,idxAV_encNsI ha.1 hlt,Nd.cells])
      refine And.intro (fun h => ⟨inR_i64 (by omega) (by omega), ?_⟩) (fun h => ?_)
      · refine RetV.same ?_
        have ha' := hasI_iff.2 ha
        have hb' := hasI_iff.2 hb
        simp [holdsI, ha', hb', szI_eq hlt]
        omega
      · refine RetV.same ?_
        have ha' := hasI_iff.2 ha
        have hb' := hasI_iff.2 hb
        simp [holdsI, ha', hb', szI_eq hlt]
        omega
set_option maxRecDepth 100000 in
theorem above_c (l : List Nd) (hl : l.length ≤ 1000000000) (a : Nat) (ha : a < l.length) : PFun Try.prog 67 [encNs l, vI a] (encI (aboveD l a a)) := fun σ => by
  refine Contract.of_runs Try.func67 e67 k67 (by simp [c67]) ?_
  refine Runs.mix 7 ?_
  (refine Runs.of_step Orc.nothing 300 ?_; simp -implicitDefEqProofs only [BB,seval,effR_some,effD_some,← decide_not,okind,vpre,vpure,intBin,intPre,strBin,strPre,popTo,argSlots,fldV,fldAV,subCells,idxVV,idxAAV,idxSV,sliceV,sliceSV,boundV,szIs,storeOp,storeS,setRowV,eff,extV,buildV,splice,eqSV,fitsL,eqCells,eqCell,minmaxV,capV,binBV,nilCheckV,bytesV,V.cells,V.stays,Orc.nothing,c67])
  refine ⟨inR_i64 (by omega) (by omega), ?_⟩
  refine Runs.loop (fun m st => ∃ (k : Nat) (out : List Int), k ≤ a ∧ m = k ∧ aboveD l a a = out ++ aboveD l a k ∧ out.length ≤ a - k ∧ SubStore σ st.σ ∧ OutV σ st.σ 3 1 (st.s 5) (out.map vI) ∧ st.s 0 = encNs l ∧ st.s 1 = vI a ∧ st.s 6 = vI ((k : Int) - 1)) a ?_ ?_
  · exact ⟨a, [], by omega, rfl, rfl, by simp, SubStore.refl σ, OutV.start, rfl, rfl, rfl⟩
  · rintro m ⟨s, σ'⟩ ⟨k, out, hk, rfl, heq, hlen, hsub, hout, h0, h1, h6⟩
    simp only at hsub hout h0 h1 h6
    refine Runs.mix 7 ?_
    (refine Runs.of_step Orc.nothing 300 ?_; simp -implicitDefEqProofs only [BB,seval,effR_some,effD_some,← decide_not,okind,vpre,vpure,intBin,intPre,strBin,strPre,popTo,argSlots,fldV,fldAV,subCells,idxVV,idxAAV,idxSV,sliceV,sliceSV,boundV,szIs,storeOp,storeS,setRowV,eff,extV,buildV,splice,eqSV,fitsL,eqCells,eqCell,minmaxV,capV,binBV,nilCheckV,bytesV,V.cells,V.stays,Orc.nothing,h0,h1,h6])
    refine And.intro (fun h => ?_) (fun h => ?_)
    · obtain ⟨k, rfl⟩ : ∃ j, m = j + 1 := ⟨m - 1, by omega⟩
      refine Runs.pcall rfl rfl rfl (has8_c l a _) ?_
      have hha : hasI l a = true := hasI_iff.2 ⟨by omega, by omega⟩
      have e1 : ((k + 1 : Nat) : Int) - 1 = k := by omega
      (refine Runs.of_step Orc.nothing 300 ?_; simp -implicitDefEqProofs only [BB,seval,effR_some,effD_some,← decide_not,okind,vpre,vpure,intBin,intPre,strBin,strPre,popTo,argSlots,fldV,fldAV,subCells,idxVV,idxAAV,idxSV,sliceV,sliceSV,boundV,szIs,storeOp,storeS,setRowV,eff,extV,buildV,splice,eqSV,fitsL,eqCells,eqCell,minmaxV,capV,binBV,nilCheckV,bytesV,V.cells,V.stays,Orc.nothing,hha,h0,h1,h6,e1])
      refine Runs.pcall rfl rfl rfl (holds_c l hl k a _) ?_
      cases hh : holdsI l k a
      · (refine Runs.of_step Orc.nothing 300 ?_; simp -implicitDefEqProofs only [BB,seval,effR_some,effD_some,← decide_not,okind,vpre,vpure,intBin,intPre,strBin,strPre,popTo,argSlots,fldV,fldAV,subCells,idxVV,idxAAV,idxSV,sliceV,sliceSV,boundV,szIs,storeOp,storeS,setRowV,eff,extV,buildV,splice,eqSV,fitsL,eqCells,eqCell,minmaxV,capV,binBV,nilCheckV,bytesV,V.cells,V.stays,Orc.nothing,hh,h0,h1,h6,e1])
        refine ⟨inR_i64 (by omega) (by omega), _, ?_, k, out, by omega, rfl, ?_, by omega, hsub, hout, rfl⟩
        · omega
        · rw [heq, aboveD, hh]; rfl
      · (refine Runs.of_step Orc.nothing 300 ?_; simp -implicitDefEqProofs only [BB,seval,← decide_not,okind,vpre,vpure,intBin,intPre,strBin,strPre,popTo,argSlots,fldV,fldAV,subCells,idxVV,idxAAV,idxSV,sliceV,sliceSV,boundV,szIs,storeOp,storeS,setRowV,eff,extV,buildV,splice,eqSV,fitsL,eqCells,eqCell,minmaxV,capV,binBV,nilCheckV,bytesV,V.cells,V.stays,Orc.nothing,hh,h0,h1,h6,e1])
        refine effR_new fun id1 σ1 s1 a1 f1 => ?_
        obtain ⟨idA, hd, hdel⟩ := hout.dst s1
        have hb : out.length + 1 ≤ a := by omega
        have hb2 : (out.length + 1) * 9 ≤ 140737488355328 := by omega
        simp -implicitDefEqProofs only [BB,seval,← decide_not,okind,vpre,vpure,intBin,intPre,strBin,strPre,popTo,argSlots,fldV,fldAV,subCells,idxVV,idxAAV,idxSV,sliceV,sliceSV,boundV,szIs,storeOp,storeS,setRowV,eff,extV,buildV,splice,eqSV,fitsL,eqCells,eqCell,minmaxV,capV,binBV,nilCheckV,bytesV,V.cells,V.stays,hd,srcOne a1,List.length_map,hb2,h0,h1,h6,e1]
        refine effR_put fun id2 σ2 s2 a2 f2 => ?_
        simp -implicitDefEqProofs only [BB,seval,← decide_not,okind,vpre,vpure,intBin,intPre,strBin,strPre,popTo,argSlots,fldV,fldAV,subCells,idxVV,idxAAV,idxSV,sliceV,sliceSV,boundV,szIs,storeOp,storeS,setRowV,eff,extV,buildV,splice,eqSV,fitsL,eqCells,eqCell,minmaxV,capV,binBV,nilCheckV,bytesV,V.cells,V.stays,h0,h1,h6,e1]
        have hs2 := (hdel σ (SubStore.refl σ) σ1 (hsub.trans s1)).trans s2
        refine ⟨inR_i64 (by omega) (by omega), _, ?_, k, out ++ [(k : Int)], by omega, rfl, ?_, by simp; omega, hs2, ?_, rfl⟩
        · omega
        · rw [heq, aboveD, hh]; simp
        · exact OutV.new (by simp) (by rw [a2]; simp) ((hsub.trans s1).none f2)
    · have hk0 : m = 0 := by omega
      subst hk0
      refine hout.retv hsub ?_
      rw [heq, aboveD]; simp [encI]
theorem aboveD_head (l : List Nd) (a : Nat) : ∀ k, (aboveD l a k).length = 0 ∧ parD l a k = -1 ∨ ∃ x r, aboveD l a k = x :: r ∧ parD l a k = x
  | 0 => .inl ⟨rfl, rfl⟩
  | k + 1 => by
    rw [aboveD, parD]
    split
    · exact .inr ⟨_, _, rfl, rfl⟩
    · exact aboveD_head l a k
theorem parD_range (l : List Nd) (a : Nat) : ∀ k, -1 ≤ parD l a k ∧ parD l a k < k
  | 0 => by simp [parD]
  | k + 1 => by
    rw [parD]
    split
    · omega
    · have := parD_range l a k; omega
set_option maxRecDepth 100000 in
theorem parent_c (l : List Nd) (hl : l.length ≤ 1000000000) (a : Nat) (ha : a < l.length) : PFun Try.prog 55 [encNs l, vI a] (vI (parR l a)) := fun σ => by
  refine Contract.of_runs Try.func55 e55 k55 (by simp [c55]) ?_
  refine Runs.mix 6 ?_
  (refine Runs.of_step Orc.nothing 300 ?_; simp -implicitDefEqProofs only [BB,seval,effR_some,effD_some,← decide_not,okind,vpre,vpure,intBin,intPre,strBin,strPre,popTo,argSlots,fldV,fldAV,subCells,idxVV,idxAAV,idxSV,sliceV,sliceSV,boundV,szIs,storeOp,storeS,setRowV,eff,extV,buildV,splice,eqSV,fitsL,eqCells,eqCell,minmaxV,capV,binBV,nilCheckV,bytesV,V.cells,V.stays,Orc.nothing,c55])
  refine Runs.pcall rfl rfl rfl (above_c l hl a ha _) ?_
  have hh := aboveD_head l a a
  (refine Runs.of_step Orc.nothing 300 ?_; simp -implicitDefEqProofs only [BB,seval,effR_some,effD_some,← decide_not,okind,vpre,vpure,intBin,intPre,strBin,strPre,popTo,argSlots,fldV,fldAV,subCells,idxVV,idxAAV,idxSV,sliceV,sliceSV,boundV,szIs,storeOp,storeS,setRowV,eff,extV,buildV,splice,eqSV,fitsL,eqCells,eqCell,minmaxV,capV,binBV,nilCheckV,bytesV,V.cells,V.stays,Orc.nothing,lenV_encI])
  refine And.intro (fun h => ?_) (fun h => ?_)
  · refine RetV.same ?_
    rcases hh with ⟨_, h2⟩ | ⟨x, r, h1, h2⟩
    · rw [parR, h2]
    · rw [h1] at h; simp at h; omega
  · rcases hh with ⟨h1, h2⟩ | ⟨x, r, h1, h2⟩
    · exact absurd (by omega) h
    · have hlt : 0 < (aboveD l a a).length := by rw [h1]; simp
      have h3 := idxAV_encI (σ := σ) hlt
      have h4 : (aboveD l a a)[0] = x := by simp [h1]
      rw [h4, Int.natCast_zero] at h3
      simp -implicitDefEqProofs only [BB,seval,effR_some,effD_some,← decide_not,okind,vpre,vpure,intBin,intPre,strBin,strPre,popTo,argSlots,fldV,fldAV,subCells,idxVV,idxAAV,idxSV,sliceV,sliceSV,boundV,szIs,storeOp,storeS,setRowV,eff,extV,buildV,splice,eqSV,fitsL,eqCells,eqCell,minmaxV,capV,binBV,nilCheckV,bytesV,V.cells,V.stays,h3]
      refine RetV.same ?_
      rw [parR, h2]
set_option maxRecDepth 100000 in
theorem kids_c (l : List Nd) (hl : l.length ≤ 1000000000) (a : Int) : PFun Try.prog 32 [encNs l, vI a] (encI (kidsR l a)) := fun σ => by
  refine Contract.of_runs Try.func32 e32 k32 (by simp [c32]) ?_
  refine Runs.mix 7 ?_
  (refine Runs.of_step Orc.nothing 300 ?_; simp -implicitDefEqProofs only [BB,seval,effR_some,effD_some,← decide_not,okind,vpre,vpure,intBin,intPre,strBin,strPre,popTo,argSlots,fldV,fldAV,subCells,idxVV,idxAAV,idxSV,sliceV,sliceSV,boundV,szIs,storeOp,storeS,setRowV,eff,extV,buildV,splice,eqSV,fitsL,eqCells,eqCell,minmaxV,capV,binBV,nilCheckV,bytesV,V.cells,V.stays,Orc.nothing,c32])
  refine Runs.loop (fun m st => ∃ (i : Nat) (out : List Int), i ≤ l.length ∧ m = l.length - i ∧ out = (((List.range i).filter fun i => decide (parR l i = a)).map fun (i : Nat) => (i : Int)) ∧ out.length ≤ i ∧ SubStore σ st.σ ∧ OutV σ st.σ 3 1 (st.s 5) (out.map vI) ∧ st.s 0 = encNs l ∧ st.s 1 = vI a ∧ st.s 6 = vI i) l.length ?_ ?_
  · exact ⟨0, [], by omega, rfl, rfl, by simp, SubStore.refl σ, OutV.start, rfl, rfl, rfl⟩
  · rintro m ⟨s, σ'⟩ ⟨i, out, hi, rfl, heq, hlen, hsub, hout, h0, h1, h6⟩
    simp only at hsub hout h0 h1 h6
    refine Runs.mix 7 ?_
    (refine Runs.of_step Orc.nothing 300 ?_; simp -implicitDefEqProofs only [BB,seval,effR_some,effD_some,← decide_not,okind,vpre,vpure,intBin,intPre,strBin,strPre,popTo,argSlots,fldV,fldAV,subCells,idxVV,idxAAV,idxSV,sliceV,sliceSV,boundV,szIs,storeOp,storeS,setRowV,eff,extV,buildV,splice,eqSV,fitsL,eqCells,eqCell,minmaxV,capV,binBV,nilCheckV,bytesV,V.cells,V.stays,Orc.nothing,h0,h1,h6,lenV_encNs])
    refine And.intro (fun h => ?_) (fun h => ?_)
    · have hlt : i < l.length := by omega
      refine Runs.pcall rfl rfl rfl (parent_c l hl i hlt _) ?_
      have hr := List.range_succ (n := i)
      (refine Runs.of_step Orc.nothing 300 ?_; simp -implicitDefEqProofs only [BB,seval,← decide_not,okind,vpre,vpure,intBin,intPre,strBin,strPre,popTo,argSlots,fldV,fldAV,subCells,idxVV,idxAAV,idxSV,sliceV,sliceSV,boundV,szIs,storeOp,storeS,setRowV,eff,extV,buildV,splice,eqSV,fitsL,eqCells,eqCell,minmaxV,capV,binBV,nilCheckV,bytesV,V.cells,V.stays,Orc.nothing,h0,h1,h6])
      refine And.intro (fun hp => ?_) (fun hp => ?_)
      · refine effR_new fun id1 σ1 s1 a1 f1 => ?_
        obtain ⟨idA, hd, hdel⟩ := hout.dst s1
        have hb2 : (out.length + 1) * 9 ≤ 140737488355328 := by omega
        simp -implicitDefEqProofs only [BB,seval,← decide_not,okind,vpre,vpure,intBin,intPre,strBin,strPre,popTo,argSlots,fldV,fldAV,subCells,idxVV,idxAAV,idxSV,sliceV,sliceSV,boundV,szIs,storeOp,storeS,setRowV,eff,extV,buildV,splice,eqSV,fitsL,eqCells,eqCell,minmaxV,capV,binBV,nilCheckV,bytesV,V.cells,V.stays,hd,srcOne a1,List.length_map,hb2,h0,h1,h6]
        refine effR_put fun id2 σ2 s2 a2 f2 => ?_
        simp -implicitDefEqProofs only [BB,seval,← decide_not,okind,vpre,vpure,intBin,intPre,strBin,strPre,popTo,argSlots,fldV,fldAV,subCells,idxVV,idxAAV,idxSV,sliceV,sliceSV,boundV,szIs,storeOp,storeS,setRowV,eff,extV,buildV,splice,eqSV,fitsL,eqCells,eqCell,minmaxV,capV,binBV,nilCheckV,bytesV,V.cells,V.stays,h0,h1,h6]
        have hs2 := (hdel σ (SubStore.refl σ) σ1 (hsub.trans s1)).trans s2
        refine ⟨inR_i64 (by omega) (by omega), _, ?_, i + 1, out ++ [(i : Int)], by omega, rfl, ?_, by simp; omega, hs2, ?_, rfl⟩
        · omega
        · rw [hr, List.filter_append, List.map_append, ← heq]; simp [hp]
        · exact OutV.new (by simp) (by rw [a2]; simp) ((hsub.trans s1).none f2)
      · refine ⟨inR_i64 (by omega) (by omega), _, ?_, i + 1, out, by omega, rfl, ?_, by omega, hsub, hout, rfl⟩
        · omega
        · rw [hr, List.filter_append, List.map_append, ← heq]; simp [hp]
    · have hie : i = l.length := by omega
      refine hout.retv hsub ?_
      rw [heq, hie]; rfl
end Go.Vc
namespace Go.Vc
open Go.Proofs
theorem kidsR_mem {l : List Nd} {a x : Int} (h : x ∈ kidsR l a) : 0 ≤ x ∧ x.toNat < l.length := by
  simp only [kidsR,List.mem_map,List.mem_filter,List.mem_range] at h
  obtain ⟨i, ⟨h1, _⟩, rfl⟩ := h
  exact ⟨by omega, by simpa using h1⟩
theorem kidsR_len (l : List Nd) (a : Int) : (kidsR l a).length ≤ l.length := by
  simp only [kidsR,List.length_map]
  exact Nat.le_trans (List.length_filter_le _ _) (by simp)
theorem lastEnd_take {l : List Nd} {into : Int} {ks : List Int} {i : Nat} (h : i < ks.length) : lastEnd l into (ks.take (i + 1)) = ks[i] + szI l ks[i].toNat := by
  rw [List.take_succ_eq_append_getElem h, lastEnd, List.foldl_append]
  rfl
theorem srcRows_encI (σ : Store) (l : List Int) : srcRows σ 1 (encI l) = some (l.map vI) := by simp [encI, srcRows]
theorem szI_bound {l : List Nd} (hb : isB l = true) {i : Nat} (h : i < l.length) : 1 ≤ szI l i ∧ szI l i ≤ l.length := by
  rw [szI_eq h]
  have := isB_size hb h
  omega
set_option maxRecDepth 100000 in
theorem places_c (l : List Nd) (hl : l.length ≤ 1000000000) (hb : isB l = true) (into : Int) (h1 : -1 ≤ into) (h2 : into ≤ 1000000000) : PFun Try.prog 51 [encNs l, vI into] (encI (placesR l into)) := fun σ => by
  refine Contract.of_runs Try.func51 e51 k51 (by simp [c51]) ?_
  refine Runs.mix 8 ?_
  (refine Runs.of_step Orc.nothing 300 ?_; simp -implicitDefEqProofs only [BB,seval,effR_some,effD_some,← decide_not,okind,vpre,vpure,intBin,intPre,strBin,strPre,popTo,argSlots,fldV,fldAV,subCells,idxVV,idxAAV,idxSV,sliceV,sliceSV,boundV,szIs,storeOp,storeS,setRowV,eff,extV,buildV,splice,eqSV,fitsL,eqCells,eqCell,minmaxV,capV,binBV,nilCheckV,bytesV,V.cells,V.stays,Orc.nothing,c51])
  refine Runs.pcall rfl rfl rfl (kids_c l hl into _) ?_
  have hkl := kidsR_len l into
  have hkm := fun x (h : x ∈ kidsR l into) => kidsR_mem h
  have hpe : placesR l into = kidsR l into ++ [lastEnd l into (kidsR l into)] := rfl
  generalize kidsR l into = ks at *
  (refine Runs.of_step Orc.nothing 300 ?_; simp -implicitDefEqProofs only [BB,seval,effR_some,effD_some,← decide_not,okind,vpre,vpure,intBin,intPre,strBin,strPre,popTo,argSlots,fldV,fldAV,subCells,idxVV,idxAAV,idxSV,sliceV,sliceSV,boundV,szIs,storeOp,storeS,setRowV,eff,extV,buildV,splice,eqSV,fitsL,eqCells,eqCell,minmaxV,capV,binBV,nilCheckV,bytesV,V.cells,V.stays,Orc.nothing])
  refine ⟨inR_i64 (by omega) (by omega), ?_⟩
  refine Runs.loop (fun m st => ∃ (i : Nat), i ≤ ks.length ∧ m = ks.length - i ∧ st.σ = σ ∧ st.s 0 = encNs l ∧ st.s 1 = vI into ∧ st.s 5 = encI ks ∧ st.s 6 = vI (lastEnd l into (ks.take i)) ∧ st.s 7 = vI i) ks.length ?_ ?_
  · exact ⟨0, by omega, rfl, rfl, rfl, rfl, rfl, rfl, rfl⟩
  · rintro m ⟨s, σ'⟩ ⟨i, hi, rfl, hσ, h0, h1, h5, h6, h7⟩
    simp only at hσ h0 h1 h5 h6 h7
    subst hσ
    refine Runs.mix 8 ?_
    (refine Runs.of_step Orc.nothing 300 ?_; simp -implicitDefEqProofs only [BB,seval,← decide_not,okind,vpre,vpure,intBin,intPre,strBin,strPre,popTo,argSlots,fldV,fldAV,subCells,idxVV,idxAAV,idxSV,sliceV,sliceSV,boundV,szIs,storeOp,storeS,setRowV,eff,extV,buildV,splice,eqSV,fitsL,eqCells,eqCell,minmaxV,capV,binBV,nilCheckV,bytesV,V.cells,V.stays,Orc.nothing,h0,h1,h5,h6,h7,lenV_encI])
    refine And.intro (fun h => ?_) (fun h => ?_)
    · have hlt : i < ks.length := by omega
      obtain ⟨g1, g2⟩ := hkm _ (List.getElem_mem hlt)
      have hle := lastEnd_take (l := l) (into := into) hlt
      have hsz := szI_bound hb g2
      have hse := szI_eq g2
      generalize hke : ks[i] = q at *
      simp -implicitDefEqProofs only [BB,seval,effR_some,effD_some,← decide_not,okind,vpre,vpure,intBin,intPre,strBin,strPre,popTo,argSlots,fldV,fldAV,subCells,idxVV,idxAAV,idxSV,sliceV,sliceSV,boundV,szIs,storeOp,storeS,setRowV,eff,extV,buildV,splice,eqSV,fitsL,eqCells,eqCell,minmaxV,capV,binBV,nilCheckV,bytesV,V.cells,V.stays,idxAV_encI hlt,hke,idxAV_encNsI g1 g2,Nd.cells,h0,h1,h5,h6,h7]
      refine ⟨inR_i64 (by omega) (by omega), inR_i64 (by omega) (by omega), _, ?_, i + 1, by omega, rfl, ?_, by simp⟩
      · omega
      · rw [hle, hse]
    · have hie : i = ks.length := by omega
      subst hie
      rw [List.take_length] at h6
      generalize lastEnd l into ks = le at *
      refine effR_new fun id1 σ1 s1 a1 f1 => ?_
      obtain ⟨idA, hd, hdel⟩ := (OutV.new (K := σ') (e := 3) (sz := 1) (n := 0) (rows := []) rfl a1 f1).dst (SubStore.refl _)
      have hb2 : ks.length * 9 ≤ 140737488355328 := by omega
      simp -implicitDefEqProofs only [BB,seval,← decide_not,okind,vpre,vpure,intBin,intPre,strBin,strPre,popTo,argSlots,fldV,fldAV,subCells,idxVV,idxAAV,idxSV,sliceV,sliceSV,boundV,szIs,storeOp,storeS,setRowV,eff,extV,buildV,splice,eqSV,fitsL,eqCells,eqCell,minmaxV,capV,binBV,nilCheckV,bytesV,V.cells,V.stays,hd,srcRows_encI,List.length_map,hb2,h0,h1,h5,h6,h7]
      refine effR_put fun id2 σ2 s2 a2 f2 => ?_
      have hs2 := (hdel σ' (SubStore.refl _) σ1 s1).trans s2
      simp -implicitDefEqProofs only [BB,seval,← decide_not,okind,vpre,vpure,intBin,intPre,strBin,strPre,popTo,argSlots,fldV,fldAV,subCells,idxVV,idxAAV,idxSV,sliceV,sliceSV,boundV,szIs,storeOp,storeS,setRowV,eff,extV,buildV,splice,eqSV,fitsL,eqCells,eqCell,minmaxV,capV,binBV,nilCheckV,bytesV,V.cells,V.stays,h0,h1,h5,h6,h7]
      refine effR_new fun id3 σ3 s3 a3 f3 => ?_
      have hs3 := hs2.trans s3
      obtain ⟨idB, hd3, hdel3⟩ := ((OutV.new (K := σ') (e := 3) (sz := 1) (n := ks.length) (rows := ks.map vI) (by simp) a2 (s1.none f2))).dst s3
      have hb3 : (ks.length + 1) * 9 ≤ 140737488355328 := by omega
      simp -implicitDefEqProofs only [BB,seval,← decide_not,okind,vpre,vpure,intBin,intPre,strBin,strPre,popTo,argSlots,fldV,fldAV,subCells,idxVV,idxAAV,idxSV,sliceV,sliceSV,boundV,szIs,storeOp,storeS,setRowV,eff,extV,buildV,splice,eqSV,fitsL,eqCells,eqCell,minmaxV,capV,binBV,nilCheckV,bytesV,V.cells,V.stays,hd3,srcOne a3,List.length_map,hb3,h0,h1,h5,h6,h7]
      refine effR_put fun id4 σ4 s4 a4 f4 => ?_
      have hs4 := (hdel3 σ' (SubStore.refl _) σ3 hs3).trans s4
      simp -implicitDefEqProofs only [BB,seval,← decide_not,okind,vpre,vpure,intBin,intPre,strBin,strPre,popTo,argSlots,fldV,fldAV,subCells,idxVV,idxAAV,idxSV,sliceV,sliceSV,boundV,szIs,storeOp,storeS,setRowV,eff,extV,buildV,splice,eqSV,fitsL,eqCells,eqCell,minmaxV,capV,binBV,nilCheckV,bytesV,V.cells,V.stays,h0,h1,h5,h6,h7]
      refine (OutV.new (K := σ') (e := 3) (sz := 1) (n := ks.length + 1) (rows := (ks ++ [le]).map vI) (by simp) (by rw [a4]; simp) (hs3.none f4)).retv hs4 ?_
      rw [hpe]; rfl
set_option maxRecDepth 100000 in
theorem block8_c (l : List Nd) (a : Int) : PFun Try.prog 26 [encNs l, vI a] (.bool (blockR l a)) := fun σ => by
  refine Contract.of_runs Try.func26 e26 k26 (by simp [c26]) ?_
  refine Runs.mix 6 ?_
  (refine Runs.of_step Orc.nothing 300 ?_; simp -implicitDefEqProofs only [BB,seval,effR_some,effD_some,← decide_not,okind,vpre,vpure,intBin,intPre,strBin,strPre,popTo,argSlots,fldV,fldAV,subCells,idxVV,idxAAV,idxSV,sliceV,sliceSV,boundV,szIs,storeOp,storeS,setRowV,eff,extV,buildV,splice,eqSV,fitsL,eqCells,eqCell,minmaxV,capV,binBV,nilCheckV,bytesV,V.cells,V.stays,Orc.nothing,c26])
  refine Runs.pcall rfl rfl rfl (has8_c l a _) ?_
  cases ha : hasI l a
  · (refine Runs.of_step Orc.nothing 300 ?_; simp -implicitDefEqProofs only [BB,seval,effR_some,effD_some,← decide_not,okind,vpre,vpure,intBin,intPre,strBin,strPre,popTo,argSlots,fldV,fldAV,subCells,idxVV,idxAAV,idxSV,sliceV,sliceSV,boundV,szIs,storeOp,storeS,setRowV,eff,extV,buildV,splice,eqSV,fitsL,eqCells,eqCell,minmaxV,capV,binBV,nilCheckV,bytesV,V.cells,V.stays,Orc.nothing,ha])
    refine RetV.same ?_
    simp [blockR, ha]
  · have ha' := hasI_iff.1 ha
    have hlt : a.toNat < l.length := by omega
    (refine Runs.of_step Orc.nothing 300 ?_; simp -implicitDefEqProofs only [BB,seval,effR_some,effD_some,← decide_not,okind,vpre,vpure,intBin,intPre,strBin,strPre,popTo,argSlots,fldV,fldAV,subCells,idxVV,idxAAV,idxSV,sliceV,sliceSV,boundV,szIs,storeOp,storeS,setRowV,eff,extV,buildV,splice,eqSV,fitsL,eqCells,eqCell,minmaxV,capV,binBV,nilCheckV,bytesV,V.cells,V.stays,Orc.nothing,ha,idxAV_encNsI ha'.1 hlt,Nd.cells])
    refine RetV.same ?_
    simp [blockR, ha, kdI_eq hlt]
end Go.Vc
namespace Go.Vc
open Go.Proofs
structure Ed where
  kind : Int
  into : Int
  pos : Int
  many : Int
  sub : List Nd
  st : Sty
  deriving DecidableEq
def Ed.cells (x : Ed) : List V := [.int .i64 x.kind, .int .i64 x.into, .int .i64 x.pos, .int .i64 x.many, encNs x.sub, .int .i64 x.st.top, .int .i64 x.st.bottom, .int .i64 x.st.padTop, .int .i64 x.st.padBottom, .int .i64 x.st.inset, .int .i64 x.st.orphans, .int .i64 x.st.widows, .int .i64 x.st.head, .int .i64 x.st.before, .int .i64 x.st.after, .int .i64 x.st.inside, .int .i64 x.st.clear]
def encE (x : Ed) : V := .agg x.cells
theorem endS_drop {pos many : Int} {p : List Int} {i : Nat} (h : i < p.length) : endS pos many (p.drop i) = if p[i] = pos ∧ many < ((p.length : Int) - i) then ((p.drop i)[many.toNat]?).getD 0 else endS pos many (p.drop (i + 1)) := by
  rw [List.drop_eq_getElem_cons h, endS]
  have : ((p.drop (i + 1)).length : Int) + 1 = (p.length : Int) - i := by simp; omega
  rw [this, ← List.drop_eq_getElem_cons h]
set_option maxRecDepth 100000 in
theorem end_c (l : List Nd) (hl : l.length ≤ 1000000000) (hb : isB l = true) (x : Ed) : PFun Try.prog 28 [encNs l, encE x] (vI (endR l x.into x.pos x.many)) := fun σ => by
  refine Contract.of_runs Try.func28 e28 k28 (by simp [c28]) ?_
  refine Runs.mix 7 ?_
  (refine Runs.of_step Orc.nothing 300 ?_; simp -implicitDefEqProofs only [BB,seval,← decide_not,okind,vpre,vpure,intBin,intPre,strBin,strPre,popTo,argSlots,fldV,fldAV,subCells,idxVV,idxAAV,idxSV,sliceV,sliceSV,boundV,szIs,storeOp,storeS,setRowV,eff,extV,buildV,splice,eqSV,fitsL,eqCells,eqCell,minmaxV,capV,binBV,nilCheckV,bytesV,V.cells,V.stays,Orc.nothing,c28,encE,Ed.cells,encNs_cells,encNs_stays])
  refine effR_new fun id3 σ1 s1 a3 f3 => ?_
  simp -implicitDefEqProofs only [BB,seval,← decide_not,okind,vpre,vpure,intBin,intPre,strBin,strPre,popTo,argSlots,fldV,fldAV,subCells,idxVV,idxAAV,idxSV,sliceV,sliceSV,boundV,szIs,storeOp,storeS,setRowV,eff,extV,buildV,splice,eqSV,fitsL,eqCells,eqCell,minmaxV,capV,binBV,nilCheckV,bytesV,V.cells,V.stays,a3,encNs_cells,encNs_stays]
  refine And.intro (fun h => ?gA) (fun h => ?gB)
  case' gB =>
    have hin : -1 ≤ x.into ∧ x.into ≤ 1000000000 := by omega
    have hbk : x.into = -1 := by omega
    refine And.intro (fun hm => ?_) (fun hm => ?go2)
    refine RetV.pure s1 ?_
    rw [endR, if_pos (.inr (by simpa using hm))]
  case' gA =>
    refine Runs.pcall rfl rfl rfl (block8_c l _ _) ?_
    cases hbk : blockR l x.into
  case' gA.false =>
    (refine Runs.of_step Orc.nothing 300 ?_; simp -implicitDefEqProofs only [BB,seval,← decide_not,okind,vpre,vpure,intBin,intPre,strBin,strPre,popTo,argSlots,fldV,fldAV,subCells,idxVV,idxAAV,idxSV,sliceV,sliceSV,boundV,szIs,storeOp,storeS,setRowV,eff,extV,buildV,splice,eqSV,fitsL,eqCells,eqCell,minmaxV,capV,binBV,nilCheckV,bytesV,V.cells,V.stays,Orc.nothing,hbk,a3])
    refine RetV.pure s1 ?_
    rw [endR, if_pos (.inl ⟨by simpa using h, hbk⟩)]
  case' gA.true =>
    (refine Runs.of_step Orc.nothing 300 ?_; simp -implicitDefEqProofs only [BB,seval,← decide_not,okind,vpre,vpure,intBin,intPre,strBin,strPre,popTo,argSlots,fldV,fldAV,subCells,idxVV,idxAAV,idxSV,sliceV,sliceSV,boundV,szIs,storeOp,storeS,setRowV,eff,extV,buildV,splice,eqSV,fitsL,eqCells,eqCell,minmaxV,capV,binBV,nilCheckV,bytesV,V.cells,V.stays,Orc.nothing,hbk,a3])
    have hin : -1 ≤ x.into ∧ x.into ≤ 1000000000 := by
      simp only [blockR,Bool.and_eq_true] at hbk
      have := hasI_iff.1 hbk.1
      omega
    refine And.intro (fun hm => ?_) (fun hm => ?go1)
    refine RetV.pure s1 ?_
    rw [endR, if_pos (.inr (by simpa using hm))]
  case gA.true | gB =>
    refine Runs.pcall rfl rfl rfl (places_c l hl hb _ hin.1 hin.2 _) ?_
    have hE : endR l x.into x.pos x.many = endS x.pos x.many (placesR l x.into) := by
      rw [endR, if_neg]
      simp [hbk]; omega
    have hpl : (placesR l x.into).length ≤ l.length + 1 := by
      have := kidsR_len l x.into
      simp only [placesR,List.length_append,List.length_cons,List.length_nil]; omega
    rw [hE]
    generalize placesR l x.into = p at *
    (refine Runs.of_step Orc.nothing 300 ?_; simp -implicitDefEqProofs only [BB,seval,effR_some,effD_some,← decide_not,okind,vpre,vpure,intBin,intPre,strBin,strPre,popTo,argSlots,fldV,fldAV,subCells,idxVV,idxAAV,idxSV,sliceV,sliceSV,boundV,szIs,storeOp,storeS,setRowV,eff,extV,buildV,splice,eqSV,fitsL,eqCells,eqCell,minmaxV,capV,binBV,nilCheckV,bytesV,V.cells,V.stays,Orc.nothing,a3])
    refine Runs.loop (fun m st => ∃ (i : Nat), i ≤ p.length ∧ m = p.length - i ∧ st.σ = σ1 ∧ endS x.pos x.many p = endS x.pos x.many (p.drop i) ∧ st.s 3 = .ptr id3 0 0 ∧ st.s 5 = encI p ∧ st.s 6 = vI i) p.length ?_ ?_
    · exact ⟨0, by omega, rfl, rfl, rfl, rfl, rfl, rfl⟩
    · rintro m ⟨s, σ'⟩ ⟨i, hi, rfl, hσ, heq, h3, h5, h6⟩
      simp only at hσ h3 h5 h6
      subst hσ
      refine Runs.mix 7 ?_
      (refine Runs.of_step Orc.nothing 300 ?_; simp -implicitDefEqProofs only [BB,seval,effR_some,effD_some,← decide_not,okind,vpre,vpure,intBin,intPre,strBin,strPre,popTo,argSlots,fldV,fldAV,subCells,idxVV,idxAAV,idxSV,sliceV,sliceSV,boundV,szIs,storeOp,storeS,setRowV,eff,extV,buildV,splice,eqSV,fitsL,eqCells,eqCell,minmaxV,capV,binBV,nilCheckV,bytesV,V.cells,V.stays,Orc.nothing,h3,h5,h6,lenV_encI])
      refine And.intro (fun h => ?_) (fun h => ?_)
      · have hlt : i < p.length := by omega
        have hd := endS_drop (pos := x.pos) (many := x.many) hlt
        simp -implicitDefEqProofs only [BB,seval,effR_some,effD_some,← decide_not,okind,vpre,vpure,intBin,intPre,strBin,strPre,popTo,argSlots,fldV,fldAV,subCells,idxVV,idxAAV,idxSV,sliceV,sliceSV,boundV,szIs,storeOp,storeS,setRowV,eff,extV,buildV,splice,eqSV,fitsL,eqCells,eqCell,minmaxV,capV,binBV,nilCheckV,bytesV,V.cells,V.stays,idxAV_encI hlt,a3,h3,h5,h6,lenV_encI,encNs_cells]
        refine And.intro (fun hq => ?_) (fun hq => ?_)
        · refine ⟨inR_i64 (by omega) (by omega), And.intro (fun hq2 => ?_) (fun hq2 => ?_)⟩
          · refine ⟨inR_i64 (by omega) (by omega), ?_⟩
            have hm0 : 0 ≤ x.many := by omega
            have hlt2 : i + x.many.toNat < p.length := by omega
            have e2 : (i : Int) + x.many = ((i + x.many.toNat : Nat) : Int) := by omega
            rw [e2]
            simp -implicitDefEqProofs only [BB,seval,effR_some,effD_some,← decide_not,okind,vpre,vpure,intBin,intPre,strBin,strPre,popTo,argSlots,fldV,fldAV,subCells,idxVV,idxAAV,idxSV,sliceV,sliceSV,boundV,szIs,storeOp,storeS,setRowV,eff,extV,buildV,splice,eqSV,fitsL,eqCells,eqCell,minmaxV,capV,binBV,nilCheckV,bytesV,V.cells,V.stays,idxAV_encI hlt2]
            refine RetV.pure s1 ?_
            rw [heq, hd, if_pos ⟨by simpa using hq, by simpa using hq2⟩]
            simp [List.getElem?_drop, hlt2]
          · refine ⟨inR_i64 (by omega) (by omega), _, ?_, i + 1, by omega, rfl, ?_, by simp⟩
            · omega
            · rw [heq, hd, if_neg]
              rintro ⟨_, hh⟩; omega
        · refine ⟨inR_i64 (by omega) (by omega), _, ?_, i + 1, by omega, rfl, ?_, by simp⟩
          · omega
          · rw [heq, hd, if_neg]
            rintro ⟨hh, _⟩; exact hq (by simp [hh])
      · have hie : i = p.length := by omega
        refine RetV.pure s1 ?_
        rw [heq, hie, List.drop_length, endS]
end Go.Vc
namespace Go.Vc
inductive Tr (α : Type) where
  | e
  | n (l : Tr α) (v : α) (r : Tr α)
def pathF : Nat → Nat → List Bool
  | 0, _ => []
  | _ + 1, 0 => []
  | f + 1, k + 1 => Nat.beq (Nat.mod k 2) 0 :: pathF f (Nat.div k 2)
def pathOf (k : Nat) : List Bool := pathF (Nat.succ k) k
def getN {α : Type} (d : α) (f : Nat) : List Bool → Tr α → α :=
  @Nat.rec (fun _ => List Bool → Tr α → α) (fun _ _ => d)
    (fun _ ih p t => @List.casesOn Bool (fun _ => α) p (@Tr.casesOn α (fun _ => α) t d (fun _ v _ => v))
      (fun b p' => @Tr.casesOn α (fun _ => α) t d (fun l _ r => ih p' (@Bool.casesOn (fun _ => Tr α) b r l)))) f
def getP {α : Type} (d : α) (k : Nat) (t : Tr α) : α := getN d (Nat.succ k) (pathOf k) t
def setN {α : Type} (d v : α) (f : Nat) : List Bool → Tr α → Tr α :=
  @Nat.rec (fun _ => List Bool → Tr α → Tr α) (fun _ t => t)
    (fun _ ih p t => @List.casesOn Bool (fun _ => Tr α) p (@Tr.casesOn α (fun _ => Tr α) t (.n .e v .e) (fun l _ r => .n l v r))
      (fun b p' => @Tr.casesOn α (fun _ => Tr α) t (@Bool.casesOn (fun _ => Tr α) b (.n .e d (ih p' .e)) (.n (ih p' .e) d .e))
        (fun l u r => @Bool.casesOn (fun _ => Tr α) b (.n l u (ih p' r)) (.n (ih p' l) u r)))) f
def setP {α : Type} (d v : α) (k : Nat) (t : Tr α) : Tr α := setN d v (Nat.succ k) (pathOf k) t
structure CS where
  s : Tr V
  σ : Tr (Option Ob)
  nxt : Nat
def CS.sf (cs : CS) : Nat → V := fun i => getP (.tup []) i cs.s
def stF (σ : Tr (Option Ob)) : Store := fun i => getP none i σ
def setS (cs : CS) (d : Nat) (v : V) : CS := ⟨setP (.tup []) v d cs.s, cs.σ, cs.nxt⟩
def CS.put (cs : CS) (d : Option Nat) (v : V) : CS := @Option.casesOn Nat (fun _ => CS) d cs (fun d => setS cs d v)
def eqQ : Int → Int → Bool
  | .ofNat m, .ofNat n => Nat.beq m n
  | .negSucc m, .negSucc n => Nat.beq m n
  | _, _ => false
def leQ : Int → Int → Bool
  | .ofNat m, .ofNat n => Nat.ble m n
  | .negSucc _, .ofNat _ => true
  | .negSucc m, .negSucc n => Nat.ble n m
  | .ofNat _, .negSucc _ => false
def addQ : Int → Int → Int
  | .ofNat m, .ofNat n => .ofNat (Nat.add m n)
  | a, b => a + b
def subQ : Int → Int → Int
  | .ofNat m, .ofNat n => @Bool.casesOn (fun _ => Int) (Nat.ble n m) (.negSucc (Nat.sub (Nat.sub n m) 1)) (.ofNat (Nat.sub m n))
  | a, b => a - b
def in64 : Int → Bool
  | .ofNat m => Nat.ble m 9223372036854775807
  | .negSucc m => Nat.ble m 9223372036854775807
def inRB (k : IntKind) (n : Int) : Bool := match k with
  | .i64 => in64 n
  | k => decide (k.wrap n = n)
def gI (k : IntKind) (n : Int) : Option V := @Bool.casesOn (fun _ => Option V) (inRB k n) none (some (.int k n))
def eqK (k k' : IntKind) : Bool := decide (k = k')
def is64 : IntKind → Bool
  | .i64 => true
  | _ => false
structure FI where
  f : IntKind → Int → Int → Option V
def intBinQ (op : BinOp) : FI :=
  match op with
  | .add => ⟨fun k a b => gI k (addQ a b)⟩
  | .sub => ⟨fun k a b => gI k (subQ a b)⟩
  | .mul => ⟨fun k a b => gI k (a * b)⟩
  | .quo => ⟨fun k a b => if b = 0 then none else gI k (a.tdiv b)⟩
  | .rem => ⟨fun k a b => if b = 0 then none else some (.int k (a.tmod b))⟩
  | .eql => ⟨fun _ a b => some (.bool (eqQ a b))⟩
  | .neq => ⟨fun _ a b => some (.bool (not (eqQ a b)))⟩
  | .lss => ⟨fun _ a b => some (.bool (not (leQ b a)))⟩
  | .leq => ⟨fun _ a b => some (.bool (leQ a b))⟩
  | .gtr => ⟨fun _ a b => some (.bool (not (leQ a b)))⟩
  | .geq => ⟨fun _ a b => some (.bool (leQ b a))⟩
  | _ => ⟨fun _ _ _ => none⟩
def strBinQ (op : BinOp) (a b : List UInt8) : Option V :=
  match op with
  | .add => @Bool.casesOn (fun _ => Option V) (Nat.ble (a.length + b.length) 9223372036854775807) none (some (.str (a ++ b)))
  | .eql => some (.bool (decide (a = b)))
  | .neq => some (.bool (decide (a ≠ b)))
  | _ => none
def sameK (k k' : IntKind) : Bool := @Bool.casesOn (fun _ => Bool) (is64 k) (eqK k k') (is64 k')
def binI (k : IntKind) (a : Int) (g : IntKind → Int → Int → Option V) : V → Option V
  | .int k' b => @Bool.casesOn (fun _ => Option V) (sameK k k') none (g k a b)
  | _ => none
def binS (op : BinOp) (a : List UInt8) : V → Option V
  | .str b => strBinQ op a b
  | _ => none
def binQ (op : BinOp) (g : IntKind → Int → Int → Option V) (y : V) : V → Option V
  | .int k a => binI k a g y
  | .str a => binS op a y
  | _ => none
def negQ : V → Option V
  | .int k a => gI k (0 - a)
  | _ => none
def convQ (k : IntKind) : V → Option V
  | .int _ a => gI k a
  | _ => none
def notQ : V → Option V
  | .bool b => some (.bool (!b))
  | _ => none
def pickQ (a b : V) : V → Option V
  | .bool t => some (@Bool.casesOn (fun _ => V) t b a)
  | _ => none
def natQ : Int → Option Nat
  | .ofNat m => some m
  | _ => none
def idxQ (σ : Tr (Option Ob)) (esz : Nat) (x i : V) : Option V :=
  match x, i with
  | .own id off len, .int _ j => match natQ j with
    | some m => match getP none id σ with
      | some ob => @Bool.casesOn (fun _ => Option V) (Nat.beq ob.sz esz && Nat.blt m len) none (some (.ptr id (Nat.add off m) 0))
      | none => none
    | none => none
  | .sl sz rows, .int _ j => match natQ j with
    | some m => @Bool.casesOn (fun _ => Option V) (Nat.beq sz esz) none (match rows[m]? with
      | some r => some (.rp r)
      | none => none)
    | none => none
  | _, _ => none
def loadQ (σ : Tr (Option Ob)) (agg : Bool) (sz : Nat) (x : V) : Option V :=
  match x with
  | .ptr id i k => match getP none id σ with
    | some ob => match ob.rows[i]? with
      | some r => match agg with
        | true => @Bool.casesOn (fun _ => Option V) (Nat.beq k 0 && Nat.beq r.cells.length sz)
            (@Bool.casesOn (fun _ => Option V) (Nat.ble (Nat.add k sz) r.cells.length) none (some (.agg ((r.cells.drop k).take sz)))) (some (.agg r.cells))
        | false => r.cells[k]?
      | none => none
    | none => none
  | x => loadV (stF σ) agg sz x
def idxSQ : V → V → Option V
  | .str s, .int _ j => match natQ j with
    | some m => match s[m]? with
      | some b => some (.int .u8 (Int.ofNat b.toNat))
      | none => none
    | none => none
  | _, _ => none
structure Mk where
  var : Bool
  len : Nat
  gone : Option Nat
  ob : Ob
def boxQ (e sz : Nat) (x : V) : Option Mk := @Bool.casesOn (fun _ => Option Mk) (Nat.beq x.cells.length sz && x.stays) none (some ⟨true, 0, none, ⟨e, sz, [x]⟩⟩)
def bsliceQ (e sz : Nat) (xs : List V) : Option Mk := @Bool.casesOn (fun _ => Option Mk) (xs.all fun x => Nat.beq x.cells.length sz && x.stays) none (some ⟨false, xs.length, none, ⟨e, sz, xs⟩⟩)
def mkQ (e sz bytes : Nat) (z : V) : V → Option Mk
  | .int k m => match k with
    | .i64 => match natQ m with
      | some j => @Bool.casesOn (fun _ => Option Mk) (Nat.ble (j * (bytes + 1)) 140737488355328) none (some ⟨false, j, none, ⟨e, sz, List.replicate j z⟩⟩)
      | none => none
    | _ => none
  | _ => none
def appendQ (σ : Tr (Option Ob)) (e sz bytes : Nat) (a b : V) : Option Mk := match dstRows (stF σ) e sz a, srcRows (stF σ) sz b with
  | some (base, idA), some src => @Bool.casesOn (fun _ => Option Mk) (Nat.ble ((base.length + src.length) * (bytes + 1)) 140737488355328) none (some ⟨false, base.length + src.length, idA, ⟨e, sz, base ++ src⟩⟩)
  | _, _ => none
def addRow (fl : Nat) (dst : Option Nat) (cs : CS) (m : Mk) : Option CS :=
  match m.gone with
  | none => some (CS.put ⟨cs.s, setP none (some m.ob) cs.nxt cs.σ, Nat.succ cs.nxt⟩ dst (@Bool.casesOn (fun _ => V) m.var (.own cs.nxt 0 m.len) (.ptr cs.nxt 0 0)))
  | some d => @Bool.casesOn (fun _ => Option CS) (Nat.ble fl d) none
      (some (CS.put ⟨cs.s, setP none (some m.ob) cs.nxt (setP none none d cs.σ), Nat.succ cs.nxt⟩ dst (@Bool.casesOn (fun _ => V) m.var (.own cs.nxt 0 m.len) (.ptr cs.nxt 0 0))))
inductive Out where
  | nx (cs : CS)
  | ex (id : Nat) (cs : CS)
  | rt (cs : CS)
  | bad
structure Rs where
  v : V
  σ : Tr (Option Ob)
  nxt : Nat
def CallT := FuncId → List V → Tr (Option Ob) → Nat → Nat → Option Rs
structure BI where
  f : CallT → Nat → CS → Option CS
def pureB (dst : Option Nat) (g : CS → Option V) : BI := ⟨fun _ _ cs => match g cs with
  | some v => some (cs.put dst v)
  | none => none⟩
def movB (dst : Option Nat) (x : VX) : BI := ⟨fun _ _ cs => some (cs.put dst (x.ev cs.sf))⟩
def rowB (dst : Option Nat) (g : CS → Option Mk) : BI := ⟨fun _ fl cs => match g cs with
  | some m => addRow fl dst cs m
  | none => none⟩
def callIn (dst : Option Nat) (cs : CS) : Option Rs → Option CS
  | some r => some (CS.put ⟨cs.s, r.σ, r.nxt⟩ dst r.v)
  | none => none
def callInD (dst : Option Nat) (cs : CS) : Option Rs → Option CS
  | some r => @Bool.casesOn (fun _ => Option CS) r.v.noid none (some (cs.put dst r.v))
  | none => none
def callB (draw : Bool) (dst : Option Nat) (fx : VX) (xs : List VX) : BI := match draw with
  | true => ⟨fun call _ cs => match fx.ev cs.sf with
    | .fn f caps => callInD dst cs (call f (xs.map (·.ev cs.sf) ++ caps) cs.σ cs.nxt cs.nxt)
    | _ => none⟩
  | false => ⟨fun call fl cs => match fx.ev cs.sf with
    | .fn f caps => callIn dst cs (call f (xs.map (·.ev cs.sf) ++ caps) cs.σ cs.nxt fl)
    | _ => none⟩
def storeIn (dst : Option Nat) (fl sz : Nat) (xv : V) (cs : CS) : V → Option CS
  | .ptr id i0 c => @Bool.casesOn (fun _ => Option CS) (Nat.ble fl id) none (match getP none id cs.σ with
    | some ob => match ob.rows[i0]? with
      | some r => match setRowV r c sz xv with
        | some r' => some (CS.put ⟨cs.s, setP none (some ⟨ob.elem, ob.sz, ob.rows.set i0 r'⟩) id cs.σ, cs.nxt⟩ dst (.tup []))
        | none => none
      | none => none
    | none => none)
  | _ => none
def storeB (dst : Option Nat) (sz : Nat) (xa xv : VX) : BI := ⟨fun _ fl cs => storeIn dst fl sz (xv.ev cs.sf) cs (xa.ev cs.sf)⟩
def clearIn (dst : Option Nat) (fl sz : Nat) (z : V) (cs : CS) : V → Option CS
  | .own id off len => @Bool.casesOn (fun _ => Option CS) (Nat.ble fl id) none (match getP none id cs.σ with
    | some ob => @Bool.casesOn (fun _ => Option CS) (Nat.beq ob.sz sz && Nat.ble (off + len) ob.rows.length) none
        (some (CS.put ⟨cs.s, setP none (some ⟨ob.elem, ob.sz, ob.rows.take off ++ List.replicate len z ++ ob.rows.drop (off + len)⟩) id cs.σ, cs.nxt⟩ dst (.tup [])))
    | none => none)
  | _ => none
def clearB (draw : Bool) (dst : Option Nat) (sz : Nat) (z : V) (xv : VX) : BI := match draw with
  | true => ⟨fun _ _ _ => none⟩
  | false => ⟨fun _ fl cs => clearIn dst fl sz z cs (xv.ev cs.sf)⟩
def compO (draw : Bool) (dst : Option Nat) (op : VOp) : BI := match op with
  | .mov x => movB dst x
  | .pick c a b => pureB dst fun cs => pickQ (a.ev cs.sf) (b.ev cs.sf) (c.ev cs.sf)
  | .bin op x y => @FI.casesOn (fun _ => BI) (intBinQ op) fun g => pureB dst fun cs => binQ op g (y.ev cs.sf) (x.ev cs.sf)
  | .not x => pureB dst fun cs => notQ (x.ev cs.sf)
  | .neg x => pureB dst fun cs => negQ (x.ev cs.sf)
  | .convI k x => pureB dst fun cs => convQ k (x.ev cs.sf)
  | .idxA esz x i => pureB dst fun cs => idxQ cs.σ esz (x.ev cs.sf) (i.ev cs.sf)
  | .idxS x i => pureB dst fun cs => idxSQ (x.ev cs.sf) (i.ev cs.sf)
  | .load agg sz x => pureB dst fun cs => loadQ cs.σ agg sz (x.ev cs.sf)
  | .box e sz x => rowB dst fun cs => boxQ e sz (x.ev cs.sf)
  | .alloc e sz z => rowB dst fun _ => some ⟨true, 0, none, ⟨e, sz, [z]⟩⟩
  | .bslice e sz xs => rowB dst fun cs => bsliceQ e sz (xs.map (·.ev cs.sf))
  | .mk e sz bytes z x => rowB dst fun cs => mkQ e sz bytes z (x.ev cs.sf)
  | .append e sz bytes a b => rowB dst fun cs => appendQ cs.σ e sz bytes (a.ev cs.sf) (b.ev cs.sf)
  | .call f xs => callB draw dst f xs
  | .store sz a x => storeB dst sz a x
  | .clear sz z x => clearB draw dst sz z x
  | op => pureB dst fun cs => vpure (stF cs.σ) cs.sf op
def guardB (dst : Option Nat) (b : Bool) (B : BI) (call : CallT) (fl : Nat) (cs : CS) : V → Option CS
  | .bool c => @Bool.casesOn (fun _ => Option CS) (Bool.xor c b) (B.f call fl cs) (some (cs.put dst (.tup [])))
  | .tup [] => some (cs.put dst (.tup []))
  | .int _ _ => some (cs.put dst (.tup []))
  | _ => none
def compI (draw : Bool) (i : VIns) : BI := match i.g with
  | none => compO draw i.dst i.op
  | some (x, b) => ⟨fun call fl cs => guardB i.dst b (compO draw i.dst i.op) call fl cs (x.ev cs.sf)⟩
def evOpsN (draw : Bool) (call : CallT) (fl m : Nat) : List VIns → CS → Out :=
  @Nat.rec (fun _ => List VIns → CS → Out) (fun _ _ => .bad)
    (fun _ ih l cs => @List.casesOn VIns (fun _ => Out) l (.nx cs)
      (fun i l' => @BI.casesOn (fun _ => Out) (compI draw i) fun f => @Option.casesOn CS (fun _ => Out) (f call fl cs) .bad (ih l'))) m
def evOps (draw : Bool) (call : CallT) (fl : Nat) (l : List VIns) (cs : CS) : Out := evOpsN draw call fl 1000 l cs
def Tr.ofL : List V → Nat → Tr V → Tr V
  | [], _, t => t
  | v :: l, k, t => Tr.ofL l (Nat.succ k) (setP (.tup []) v k t)
def resQ (res : List VR) (cs : CS) : Option Rs := match resV ⟨cs.sf, stF cs.σ⟩ res with
  | some v => some ⟨v, cs.σ, cs.nxt⟩
  | none => none
def outQ (res : List VR) : Out → Option Rs
  | .nx cs => resQ res cs
  | .rt cs => resQ res cs
  | _ => none
def evF (run : Nat → VCode → CS → Out) (code : FuncId → Option VFn) : CallT := fun f args σ nxt fl => match code f with
  | none => none
  | some vf => @Bool.casesOn (fun _ => Option Rs) (Nat.ble args.length vf.n) none (outQ vf.res (run fl vf.code ⟨Tr.ofL args 0 .e, σ, nxt⟩))
def onNx (o : Out) (k : CS → Out) : Out := @Out.casesOn (fun _ => Out) o k (fun id cs => .ex id cs) (fun cs => .rt cs) .bad
def onEx (id : Nat) (o : Out) : Out := @Out.casesOn (fun _ => Out) o (fun cs => .nx cs) (fun j cs => @Bool.casesOn (fun _ => Out) (Nat.beq j id) (.ex j cs) (.nx cs)) (fun cs => .rt cs) .bad
def onB (v : V) (a b : Out) : Out := match v with
  | .bool c => @Bool.casesOn (fun _ => Out) c b a
  | _ => .bad
def evL (code : FuncId → Option VFn) (fuel : Nat) : Nat → VCode → CS → Out :=
  @Nat.rec (fun _ => Nat → VCode → CS → Out) (fun _ _ _ => .bad)
    (fun _ ih fl c cs => match c with
      | .skip => .nx cs
      | .reg draw l => evOps draw (evF ih code) fl l cs
      | .seq a b => onNx (ih fl a cs) fun cs' => ih fl b cs'
      | .cond c a b => onB (c.ev cs.sf) (ih fl a cs) (ih fl b cs)
      | .block id a => onEx id (ih fl a cs)
      | .loop a => onNx (ih fl a cs) fun cs' => ih fl (.loop a) cs'
      | .exit id => .ex id cs
      | .ret => .rt cs
      | .rangeF .. => .bad
      | .regA .. => .bad
      | .regL .. => .bad
      | .bad => .bad) fuel
end Go.Vc
namespace Go.Vc
def gL {α : Type} (d : α) : List Bool → Tr α → α
  | _, .e => d
  | [], .n _ v _ => v
  | b :: p, .n l _ r => gL d p (if b then l else r)
def sL {α : Type} (d v : α) : List Bool → Tr α → Tr α
  | [], .e => .n .e v .e
  | [], .n l _ r => .n l v r
  | b :: p, .e => if b then .n (sL d v p .e) d .e else .n .e d (sL d v p .e)
  | b :: p, .n l u r => if b then .n (sL d v p l) u r else .n l u (sL d v p r)
theorem getN_eq {α : Type} (d : α) : ∀ (f : Nat) (p : List Bool) (t : Tr α), p.length < f → getN d f p t = gL d p t
  | 0, _, _, h => by omega
  | f + 1, [], t, _ => by cases t <;> rfl
  | f + 1, b :: p, t, h => by
    cases t with
    | e => rfl
    | n l u r =>
      have ih := getN_eq d f p (if b then l else r) (by simpa using h)
      cases b <;> exact ih
theorem setN_eq {α : Type} (d v : α) : ∀ (f : Nat) (p : List Bool) (t : Tr α), p.length < f → setN d v f p t = sL d v p t
  | 0, _, _, h => by omega
  | f + 1, [], t, _ => by cases t <;> rfl
  | f + 1, b :: p, t, h => by
    have h' : p.length < f := by simpa using h
    cases t with
    | e => cases b <;> simp only [sL, Bool.false_eq_true, if_false, if_true] <;> rw [← setN_eq d v f p _ h'] <;> rfl
    | n l u r => cases b <;> simp only [sL, Bool.false_eq_true, if_false, if_true] <;> rw [← setN_eq d v f p _ h'] <;> rfl
theorem gL_e {α : Type} (d : α) (p : List Bool) : gL d p .e = d := by cases p <;> rfl
theorem gL_sL {α : Type} (d v : α) : ∀ (p q : List Bool) (t : Tr α), gL d q (sL d v p t) = if q = p then v else gL d q t
  | [], [], t => by cases t <;> simp [sL, gL]
  | [], b :: q, t => by cases t <;> simp [sL, gL, gL_e]
  | a :: p, [], t => by cases t <;> cases a <;> simp [sL, gL]
  | a :: p, b :: q, t => by
    cases t with
    | e =>
      have ih := gL_sL d v p q .e
      cases a <;> cases b <;> simp [sL, gL, gL_e, ih]
    | n l u r =>
      have ihl := gL_sL d v p q l
      have ihr := gL_sL d v p q r
      cases a <;> cases b <;> simp [sL, gL, ihl, ihr]
def pval : List Bool → Nat
  | [] => 0
  | b :: p => 2 * pval p + (if b then 1 else 2)
theorem pval_path : ∀ (f k : Nat), k < f → pval (pathF f k) = k
  | 0, _, h => by omega
  | f + 1, 0, _ => rfl
  | f + 1, k + 1, h => by
    have ih := pval_path f (k / 2) (by omega)
    have ih' : pval (pathF f (k.div 2)) = k / 2 := ih
    simp only [pathF, pval, ih']
    have h1 : Nat.mod k 2 = k % 2 := rfl
    by_cases hk : k % 2 = 0
    · have : Nat.beq (Nat.mod k 2) 0 = true := by rw [h1, hk]; rfl
      simp only [this, if_true]; omega
    · have hk1 : k % 2 = 1 := by omega
      have : Nat.beq (Nat.mod k 2) 0 = false := by rw [h1, hk1]; rfl
      simp only [this, Bool.false_eq_true, if_false]; omega
theorem plen : ∀ p : List Bool, p.length ≤ pval p
  | [] => Nat.le_refl _
  | b :: p => by have := plen p; simp only [List.length_cons, pval]; split <;> omega
theorem pathOf_len (k : Nat) : (pathOf k).length < k.succ := by
  have h1 := plen (pathOf k)
  have h2 : pval (pathOf k) = k := pval_path (k + 1) k (by omega)
  omega
theorem pathOf_inj {i k : Nat} (h : pathOf i = pathOf k) : i = k := by
  have h1 : pval (pathOf i) = i := pval_path (i + 1) i (by omega)
  have h2 : pval (pathOf k) = k := pval_path (k + 1) k (by omega)
  rw [← h1, ← h2, h]
theorem getP_set {α : Type} (d v : α) (i k : Nat) (t : Tr α) : getP d i (setP d v k t) = if i = k then v else getP d i t := by
  unfold getP setP
  rw [getN_eq _ _ _ _ (pathOf_len i), getN_eq _ _ _ _ (pathOf_len i), setN_eq _ _ _ _ _ (pathOf_len k), gL_sL]
  by_cases h : i = k
  · simp [h]
  · rw [if_neg h, if_neg (fun e => h (pathOf_inj e))]
theorem getP_e {α : Type} (d : α) (i : Nat) : getP d i .e = d := by
  unfold getP
  rw [getN_eq _ _ _ _ (pathOf_len i), gL_e]
theorem sf_put (cs : CS) (d : Option Nat) (v : V) : (cs.put d v).sf = putO cs.sf d v := by
  funext i
  cases d with
  | none => rfl
  | some d => show getP _ i (setP _ v d cs.s) = _; rw [getP_set]; rfl
theorem put_σ (cs : CS) (d : Option Nat) (v : V) : (cs.put d v).σ = cs.σ ∧ (cs.put d v).nxt = cs.nxt := by cases d <;> exact ⟨rfl, rfl⟩
theorem stF_set (σ : Tr (Option Ob)) (k : Nat) (o : Ob) : stF (setP none (some o) k σ) = upd (stF σ) k o := by
  funext i; show getP none i _ = _; rw [getP_set]; rfl
theorem stF_del (σ : Tr (Option Ob)) (k : Nat) : stF (setP none none k σ) = del (stF σ) k := by
  funext i; show getP none i _ = _; rw [getP_set]; rfl
mutual
def VRel (R : Nat → Nat → Prop) : V → V → Prop
  | .own id off len, u => ∃ id', u = .own id' off len ∧ R id id'
  | .ptr id i k, u => ∃ id', u = .ptr id' i k ∧ R id id'
  | .sl sz rows, u => ∃ rows', u = .sl sz rows' ∧ VRelL R rows rows'
  | .rp v, u => ∃ v', u = .rp v' ∧ VRel R v v'
  | .fn f caps, u => ∃ caps', u = .fn f caps' ∧ VRelL R caps caps'
  | .bm f caps, u => ∃ caps', u = .bm f caps' ∧ VRelL R caps caps'
  | .iface t v, u => ∃ v', u = .iface t v' ∧ VRel R v v'
  | .agg c, u => ∃ c', u = .agg c' ∧ VRelL R c c'
  | .tup c, u => ∃ c', u = .tup c' ∧ VRelL R c c'
  | .undef, u => u = .undef
  | .int k n, u => u = .int k n
  | .bool b, u => u = .bool b
  | .str s, u => u = .str s
  | .nils, u => u = .nils
  | .nilp, u => u = .nilp
  | .nilfn, u => u = .nilfn
  | .niliface, u => u = .niliface
  | .raw v, u => u = .raw v
  | .obj v, u => u = .obj v
  | .gp v, u => u = .gp v
  | .yl v, u => u = .yl v
  | .mp v, u => u = .mp v
def VRelL (R : Nat → Nat → Prop) : List V → List V → Prop
  | [], l => l = []
  | v :: vs, l => ∃ u us, l = u :: us ∧ VRel R v u ∧ VRelL R vs us
end
section
variable {R R' : Nat → Nat → Prop}
mutual
theorem VRel.mono (h : ∀ a b, R a b → R' a b) : ∀ (v u : V), VRel R v u → VRel R' v u
  | .own id off len, u, g => by simp only [VRel] at g ⊢; obtain ⟨i, e, r⟩ := g; exact ⟨i, e, h _ _ r⟩
  | .ptr id i k, u, g => by simp only [VRel] at g ⊢; obtain ⟨i, e, r⟩ := g; exact ⟨i, e, h _ _ r⟩
  | .sl sz rows, u, g => by simp only [VRel] at g ⊢; obtain ⟨i, e, r⟩ := g; exact ⟨i, e, VRelL.mono h _ _ r⟩
  | .rp v, u, g => by simp only [VRel] at g ⊢; obtain ⟨i, e, r⟩ := g; exact ⟨i, e, VRel.mono h _ _ r⟩
  | .fn f caps, u, g => by simp only [VRel] at g ⊢; obtain ⟨i, e, r⟩ := g; exact ⟨i, e, VRelL.mono h _ _ r⟩
  | .bm f caps, u, g => by simp only [VRel] at g ⊢; obtain ⟨i, e, r⟩ := g; exact ⟨i, e, VRelL.mono h _ _ r⟩
  | .iface t v, u, g => by simp only [VRel] at g ⊢; obtain ⟨i, e, r⟩ := g; exact ⟨i, e, VRel.mono h _ _ r⟩
  | .agg c, u, g => by simp only [VRel] at g ⊢; obtain ⟨i, e, r⟩ := g; exact ⟨i, e, VRelL.mono h _ _ r⟩
  | .tup c, u, g => by simp only [VRel] at g ⊢; obtain ⟨i, e, r⟩ := g; exact ⟨i, e, VRelL.mono h _ _ r⟩
  | .undef, u, g => by simpa [VRel] using g
  | .int k n, u, g => by simpa [VRel] using g
  | .bool b, u, g => by simpa [VRel] using g
  | .str s, u, g => by simpa [VRel] using g
  | .nils, u, g => by simpa [VRel] using g
  | .nilp, u, g => by simpa [VRel] using g
  | .nilfn, u, g => by simpa [VRel] using g
  | .niliface, u, g => by simpa [VRel] using g
  | .raw v, u, g => by simpa [VRel] using g
  | .obj v, u, g => by simpa [VRel] using g
  | .gp v, u, g => by simpa [VRel] using g
  | .yl v, u, g => by simpa [VRel] using g
  | .mp v, u, g => by simpa [VRel] using g
theorem VRelL.mono (h : ∀ a b, R a b → R' a b) : ∀ (v u : List V), VRelL R v u → VRelL R' v u
  | [], u, g => by simpa [VRelL] using g
  | v :: vs, u, g => by
    simp only [VRelL] at g ⊢
    obtain ⟨a, as1, e, r, rs⟩ := g
    exact ⟨a, as1, e, VRel.mono h _ _ r, VRelL.mono h _ _ rs⟩
end
mutual
theorem noid_refl : ∀ (v : V), v.noid = true → VRel R v v
  | .own .., g => by simp [V.noid] at g
  | .ptr .., g => by simp [V.noid] at g
  | .sl sz rows, g => by simp only [V.noid] at g; simp only [VRel]; exact ⟨rows, rfl, noidL_refl rows g⟩
  | .rp v, g => by simp only [V.noid] at g; simp only [VRel]; exact ⟨v, rfl, noid_refl v g⟩
  | .fn f caps, g => by simp only [V.noid] at g; simp only [VRel]; exact ⟨caps, rfl, noidL_refl caps g⟩
  | .bm f caps, g => by simp only [V.noid] at g; simp only [VRel]; exact ⟨caps, rfl, noidL_refl caps g⟩
  | .iface t v, g => by simp only [V.noid] at g; simp only [VRel]; exact ⟨v, rfl, noid_refl v g⟩
  | .agg c, g => by simp only [V.noid] at g; simp only [VRel]; exact ⟨c, rfl, noidL_refl c g⟩
  | .tup c, g => by simp only [V.noid] at g; simp only [VRel]; exact ⟨c, rfl, noidL_refl c g⟩
  | .undef, _ => by simp [VRel]
  | .int k n, _ => by simp [VRel]
  | .bool b, _ => by simp [VRel]
  | .str s, _ => by simp [VRel]
  | .nils, _ => by simp [VRel]
  | .nilp, _ => by simp [VRel]
  | .nilfn, _ => by simp [VRel]
  | .niliface, _ => by simp [VRel]
  | .raw v, _ => by simp [VRel]
  | .obj v, _ => by simp [VRel]
  | .gp v, _ => by simp [VRel]
  | .yl v, _ => by simp [VRel]
  | .mp v, _ => by simp [VRel]
theorem noidL_refl : ∀ (l : List V), noidL l = true → VRelL R l l
  | [], _ => by simp [VRelL]
  | v :: vs, g => by
    simp only [noidL, Bool.and_eq_true] at g
    simp only [VRelL]
    exact ⟨v, vs, rfl, noid_refl v g.1, noidL_refl vs g.2⟩
end
mutual
theorem noid_eq : ∀ (v u : V), v.noid = true → VRel R v u → u = v
  | .own .., _, g, _ => by simp [V.noid] at g
  | .ptr .., _, g, _ => by simp [V.noid] at g
  | .sl sz rows, u, g, h => by simp only [V.noid] at g; simp only [VRel] at h; obtain ⟨r, rfl, h⟩ := h; rw [noidL_eq rows r g h]
  | .rp v, u, g, h => by simp only [V.noid] at g; simp only [VRel] at h; obtain ⟨r, rfl, h⟩ := h; rw [noid_eq v r g h]
  | .fn f caps, u, g, h => by simp only [V.noid] at g; simp only [VRel] at h; obtain ⟨r, rfl, h⟩ := h; rw [noidL_eq caps r g h]
  | .bm f caps, u, g, h => by simp only [V.noid] at g; simp only [VRel] at h; obtain ⟨r, rfl, h⟩ := h; rw [noidL_eq caps r g h]
  | .iface t v, u, g, h => by simp only [V.noid] at g; simp only [VRel] at h; obtain ⟨r, rfl, h⟩ := h; rw [noid_eq v r g h]
  | .agg c, u, g, h => by simp only [V.noid] at g; simp only [VRel] at h; obtain ⟨r, rfl, h⟩ := h; rw [noidL_eq c r g h]
  | .tup c, u, g, h => by simp only [V.noid] at g; simp only [VRel] at h; obtain ⟨r, rfl, h⟩ := h; rw [noidL_eq c r g h]
  | .undef, u, _, h => by simpa [VRel] using h
  | .int k n, u, _, h => by simpa [VRel] using h
  | .bool b, u, _, h => by simpa [VRel] using h
  | .str s, u, _, h => by simpa [VRel] using h
  | .nils, u, _, h => by simpa [VRel] using h
  | .nilp, u, _, h => by simpa [VRel] using h
  | .nilfn, u, _, h => by simpa [VRel] using h
  | .niliface, u, _, h => by simpa [VRel] using h
  | .raw v, u, _, h => by simpa [VRel] using h
  | .obj v, u, _, h => by simpa [VRel] using h
  | .gp v, u, _, h => by simpa [VRel] using h
  | .yl v, u, _, h => by simpa [VRel] using h
  | .mp v, u, _, h => by simpa [VRel] using h
theorem noidL_eq : ∀ (l m : List V), noidL l = true → VRelL R l m → m = l
  | [], m, _, h => by simpa [VRelL] using h
  | v :: vs, m, g, h => by
    simp only [noidL, Bool.and_eq_true] at g
    simp only [VRelL] at h
    obtain ⟨u, us, rfl, h1, h2⟩ := h
    rw [noid_eq v u g.1 h1, noidL_eq vs us g.2 h2]
end
theorem VRelL.nil_iff {l : List V} : VRelL R [] l ↔ l = [] := by simp [VRelL]
theorem VRelL.cons_iff {v : V} {vs l : List V} : VRelL R (v :: vs) l ↔ ∃ u us, l = u :: us ∧ VRel R v u ∧ VRelL R vs us := by simp [VRelL]
theorem VRelL.length : ∀ {l m : List V}, VRelL R l m → m.length = l.length
  | [], _, h => by rw [VRelL.nil_iff] at h; simp [h]
  | v :: vs, _, h => by obtain ⟨u, us, rfl, _, h2⟩ := VRelL.cons_iff.1 h; simp [h2.length]
theorem VRelL.get : ∀ {l m : List V}, VRelL R l m → ∀ {i : Nat} {v : V}, l[i]? = some v → ∃ u, m[i]? = some u ∧ VRel R v u
  | [], _, _, i, v, hv => by simp at hv
  | v :: vs, _, h, i, x, hv => by
    obtain ⟨u, us, rfl, h1, h2⟩ := VRelL.cons_iff.1 h
    cases i with
    | zero => simp at hv; subst hv; exact ⟨u, by simp, h1⟩
    | succ i => simp at hv; simpa using h2.get hv
theorem VRelL.append : ∀ {l m l' m' : List V}, VRelL R l m → VRelL R l' m' → VRelL R (l ++ l') (m ++ m')
  | [], _, _, _, h, h' => by rw [VRelL.nil_iff] at h; subst h; simpa using h'
  | v :: vs, _, _, _, h, h' => by
    obtain ⟨u, us, rfl, h1, h2⟩ := VRelL.cons_iff.1 h
    exact VRelL.cons_iff.2 ⟨u, us ++ _, by simp, h1, h2.append h'⟩
theorem VRelL.take : ∀ {l m : List V}, VRelL R l m → ∀ i, VRelL R (l.take i) (m.take i)
  | [], _, h, i => by rw [VRelL.nil_iff] at h; subst h; simp [VRelL]
  | v :: vs, _, h, i => by
    obtain ⟨u, us, rfl, h1, h2⟩ := VRelL.cons_iff.1 h
    cases i with
    | zero => simp [VRelL]
    | succ i => exact VRelL.cons_iff.2 ⟨u, us.take i, by simp, h1, h2.take i⟩
theorem VRelL.drop : ∀ {l m : List V}, VRelL R l m → ∀ i, VRelL R (l.drop i) (m.drop i)
  | [], _, h, i => by rw [VRelL.nil_iff] at h; subst h; simp [VRelL]
  | v :: vs, _, h, i => by
    obtain ⟨u, us, rfl, h1, h2⟩ := VRelL.cons_iff.1 h
    cases i with
    | zero => exact VRelL.cons_iff.2 ⟨u, us, by simp, h1, h2⟩
    | succ i => simpa using h2.drop i
theorem VRelL.set : ∀ {l m : List V}, VRelL R l m → ∀ (i : Nat) {v u : V}, VRel R v u → VRelL R (l.set i v) (m.set i u)
  | [], _, h, i, _, _, _ => by rw [VRelL.nil_iff] at h; subst h; simp [VRelL]
  | v :: vs, _, h, i, x, y, hx => by
    obtain ⟨u, us, rfl, h1, h2⟩ := VRelL.cons_iff.1 h
    cases i with
    | zero => exact VRelL.cons_iff.2 ⟨y, us, by simp, hx, h2⟩
    | succ i => exact VRelL.cons_iff.2 ⟨u, us.set i y, by simp, h1, h2.set i hx⟩
theorem VRelL.replicate {v u : V} (h : VRel R v u) : ∀ n, VRelL R (List.replicate n v) (List.replicate n u)
  | 0 => by simp [VRelL]
  | n + 1 => VRelL.cons_iff.2 ⟨u, List.replicate n u, by simp [List.replicate_succ], h, VRelL.replicate h n⟩
theorem VRelL.one {v u : V} (h : VRel R v u) : VRelL R [v] [u] := VRelL.cons_iff.2 ⟨u, [], rfl, h, by simp [VRelL]⟩
theorem VRel.int_iff {k : IntKind} {n : Int} {u : V} : VRel R (.int k n) u ↔ u = .int k n := by simp [VRel]
theorem VRel.bool_iff {b : Bool} {u : V} : VRel R (.bool b) u ↔ u = .bool b := by simp [VRel]
theorem VRel.str_iff {b : List UInt8} {u : V} : VRel R (.str b) u ↔ u = .str b := by simp [VRel]
theorem VRel.agg_iff {b : List V} {u : V} : VRel R (.agg b) u ↔ ∃ c, u = .agg c ∧ VRelL R b c := by simp [VRel]
theorem VRel.agg {l m : List V} (h : VRelL R l m) : VRel R (.agg l) (.agg m) := VRel.agg_iff.2 ⟨m, rfl, h⟩
theorem VRel.rp {l m : V} (h : VRel R l m) : VRel R (.rp l) (.rp m) := by simp only [VRel]; exact ⟨m, rfl, h⟩
theorem VRel.cells {v u : V} (h : VRel R v u) : VRelL R v.cells u.cells := by
  cases v <;> simp only [VRel] at h
  case agg c => obtain ⟨c', rfl, h⟩ := h; simpa [V.cells] using h
  all_goals first
    | (subst h; exact VRelL.one (by simp [VRel]))
    | (obtain ⟨c, rfl, h⟩ := h; exact VRelL.one (by simp only [VRel]; exact ⟨_, rfl, h⟩))
theorem VRel.stays {v u : V} (h : VRel R v u) : u.stays = v.stays := by
  cases v <;> simp only [VRel] at h <;> first
    | (subst h; rfl)
    | (obtain ⟨c, rfl, h⟩ := h; rfl)
end
end Go.Vc
namespace Go.Vc
def Lv (R : Nat → Nat → Prop) (σc σ : Store) : Prop := ∀ c a o, R c a → σc c = some o → ∃ rows', σ a = some ⟨o.elem, o.sz, rows'⟩ ∧ VRelL R o.rows rows'
theorem Lv.sup {R : Nat → Nat → Prop} {σc σ σ1 : Store} (h : Lv R σc σ) (hs : SubStore σ σ1) : Lv R σc σ1 := fun c a o hc ho => by
  obtain ⟨rows', h1, h2⟩ := h c a o hc ho
  exact ⟨rows', hs _ _ h1, h2⟩
structure MRel (K : Store) (fl : Nat) (R : Nat → Nat → Prop) (σc : Store) (nxt : Nat) (σ : Store) : Prop where
  dom : ∀ c a, R c a → c < nxt
  live : Lv R σc σ
  inj : ∀ c c' a o o', R c a → R c' a → σc c = some o → σc c' = some o' → c = c'
  fn : ∀ c a a' o, R c a → R c a' → σc c = some o → a = a'
  keep : SubStore K σ
  kfl : ∀ a o c oc, K a = some o → R c a → σc c = some oc → c < fl
section
variable {R : Nat → Nat → Prop} {K σc σ : Store} {fl nxt : Nat}
theorem MRel.write (h : MRel K fl R σc nxt σ) {c a : Nat} {o : Ob} (hc : R c a) (ho : σc c = some o) (hf : fl ≤ c) {rows rows' : List V} (hr : VRelL R rows rows') :
    MRel K fl R (upd σc c ⟨o.elem, o.sz, rows⟩) nxt (upd σ a ⟨o.elem, o.sz, rows'⟩) := by
  have hlive : ∀ i x, upd σc c ⟨o.elem, o.sz, rows⟩ i = some x → ∃ y, σc i = some y := fun i x hx => by
    by_cases e : i = c
    · rw [e]; exact ⟨o, ho⟩
    · rw [upd_ne e] at hx; exact ⟨x, hx⟩
  refine ⟨h.dom, ?_, ?_, ?_, ?_, ?_⟩
  · intro c1 a1 o1 h1 h2
    by_cases e : c1 = c
    · subst e
      have : a1 = a := h.fn c1 a1 a o h1 hc ho
      subst this
      rw [upd_same] at h2
      simp only [Option.some.injEq] at h2
      subst h2
      exact ⟨rows', upd_same, hr⟩
    · rw [upd_ne e] at h2
      have hne : a1 ≠ a := fun e' => by subst e'; exact e (h.inj c1 c a1 o1 o h1 hc h2 ho)
      rw [upd_ne hne]
      exact h.live c1 a1 o1 h1 h2
  · intro c1 c2 a1 o1 o2 h1 h2 h3 h4
    obtain ⟨y, hy⟩ := hlive _ _ h3
    obtain ⟨z, hz⟩ := hlive _ _ h4
    exact h.inj c1 c2 a1 y z h1 h2 hy hz
  · intro c1 a1 a2 o1 h1 h2 h3
    obtain ⟨y, hy⟩ := hlive _ _ h3
    exact h.fn c1 a1 a2 y h1 h2 hy
  · intro i x hx
    have hne : i ≠ a := fun e => by subst e; have := h.kfl i x c o hx hc ho; omega
    rw [upd_ne hne]
    exact h.keep i x hx
  · intro a1 o1 c1 oc h1 h2 h3
    obtain ⟨y, hy⟩ := hlive _ _ h3
    exact h.kfl a1 o1 c1 y h1 h2 hy
theorem MRel.rem (h : MRel K fl R σc nxt σ) {c a : Nat} {o : Ob} (hc : R c a) (ho : σc c = some o) (hf : fl ≤ c) :
    MRel K fl R (del σc c) nxt (del σ a) := by
  have hlive : ∀ i x, del σc c i = some x → i ≠ c ∧ σc i = some x := fun i x hx => by
    by_cases e : i = c
    · subst e; simp [Vc.del] at hx
    · rw [del_ne e] at hx; exact ⟨e, hx⟩
  refine ⟨h.dom, ?_, ?_, ?_, ?_, ?_⟩
  · intro c1 a1 o1 h1 h2
    obtain ⟨e, h2⟩ := hlive _ _ h2
    have hne : a1 ≠ a := fun e' => by subst e'; exact e (h.inj c1 c a1 o1 o h1 hc h2 ho)
    rw [del_ne hne]
    exact h.live c1 a1 o1 h1 h2
  · intro c1 c2 a1 o1 o2 h1 h2 h3 h4
    exact h.inj c1 c2 a1 o1 o2 h1 h2 (hlive _ _ h3).2 (hlive _ _ h4).2
  · intro c1 a1 a2 o1 h1 h2 h3
    exact h.fn c1 a1 a2 o1 h1 h2 (hlive _ _ h3).2
  · intro i x hx
    have hne : i ≠ a := fun e => by subst e; have := h.kfl i x c o hx hc ho; omega
    rw [del_ne hne]
    exact h.keep i x hx
  · intro a1 o1 c1 oc h1 h2 h3
    exact h.kfl a1 o1 c1 oc h1 h2 (hlive _ _ h3).2
def ext (R : Nat → Nat → Prop) (c a : Nat) : Nat → Nat → Prop := fun x y => R x y ∨ (x = c ∧ y = a)
theorem ext_le (c a : Nat) : ∀ x y, R x y → ext R c a x y := fun _ _ h => .inl h
theorem MRel.new (h : MRel K fl R σc nxt σ) {i : Nat} (hi : σ i = none) {ob : Ob} {rows' : List V} (hr : VRelL R ob.rows rows') :
    MRel K fl (ext R nxt i) (upd σc nxt ob) (nxt + 1) (upd σ i ⟨ob.elem, ob.sz, rows'⟩) := by
  have hlt : ∀ c a, R c a → c ≠ nxt := fun c a hc => by have := h.dom c a hc; omega
  have hold : ∀ c a o, R c a → upd σc nxt ob c = some o → σc c = some o ∧ a ≠ i := fun c a o hc ho => by
    rw [upd_ne (hlt c a hc)] at ho
    refine ⟨ho, fun e => ?_⟩
    subst e
    obtain ⟨r, hr, _⟩ := h.live c a o hc ho
    rw [hi] at hr; cases hr
  refine ⟨?_, ?_, ?_, ?_, h.keep.upd hi, ?_⟩
  · rintro c a (hc | ⟨rfl, rfl⟩)
    · have := h.dom c a hc; omega
    · omega
  · rintro c a o (hc | ⟨rfl, rfl⟩) ho
    · obtain ⟨h1, h2⟩ := hold c a o hc ho
      obtain ⟨r, h3, h4⟩ := h.live c a o hc h1
      rw [upd_ne h2]
      exact ⟨r, h3, VRelL.mono (ext_le nxt i) _ _ h4⟩
    · rw [upd_same] at ho
      simp only [Option.some.injEq] at ho
      subst ho
      exact ⟨rows', upd_same, VRelL.mono (ext_le _ _) _ _ hr⟩
  · rintro c c' a o o' (hc | ⟨rfl, rfl⟩) (hc' | ⟨rfl, e⟩) ho ho'
    · exact h.inj c c' a o o' hc hc' (hold _ _ _ hc ho).1 (hold _ _ _ hc' ho').1
    · exact absurd e (hold _ _ _ hc ho).2
    · exact absurd rfl (hold _ _ _ hc' ho').2
    · rfl
  · rintro c a a' o (hc | ⟨rfl, rfl⟩) (hc' | ⟨e, rfl⟩) ho
    · exact h.fn c a a' o hc hc' (hold _ _ _ hc ho).1
    · exact absurd e (hlt _ _ hc)
    · exact absurd rfl (hlt _ _ hc')
    · rfl
  · rintro a o c oc hk (hc | ⟨rfl, rfl⟩) ho
    · exact h.kfl a o c oc hk hc (hold _ _ _ hc ho).1
    · have := h.keep a o hk
      rw [hi] at this; cases this
def okX : VX → Bool
  | .t _ => true
  | .c v => v.noid
def okOp (op : VOp) : Bool := op.xs.all okX && (match op with
  | .alloc _ _ z => z.noid
  | .build zero _ => noidL zero
  | .clear _ z _ => z.noid
  | .mk _ _ _ z _ => z.noid
  | .more (.tas _ _ z) _ => z.noid
  | .more (.mkB _) _ => false
  | _ => true)
def okIns (i : VIns) : Bool := okOp i.op && (match i.g with
  | some (x, _) => okX x
  | none => true)
def okCode : VCode → Bool
  | .reg _ l => l.all okIns
  | .seq a b => okCode a && okCode b
  | .cond c a b => okX c && (okCode a && okCode b)
  | .block _ a => okCode a
  | .loop a => okCode a
  | _ => true
def okRes : VR → Bool
  | .tmp x => okX x
  | .cell _ _ x => okX x
  | .bad => true
def okFn (f : VFn) : Bool := okCode f.code && f.res.all okRes
variable {s s' : Nat → V}
theorem ev_rel (hs : ∀ i, VRel R (s i) (s' i)) {x : VX} (hx : okX x = true) : VRel R (x.ev s) (x.ev s') := by
  cases x with
  | t n => exact hs n
  | c v => exact noid_refl v hx
theorem evs_rel (hs : ∀ i, VRel R (s i) (s' i)) : ∀ {xs : List VX}, xs.all okX = true → VRelL R (xs.map (·.ev s)) (xs.map (·.ev s'))
  | [], _ => by simp [VRelL]
  | x :: xs, h => by
    simp only [List.all_cons, Bool.and_eq_true] at h
    exact VRelL.cons_iff.2 ⟨_, _, rfl, ev_rel hs h.1, evs_rel hs h.2⟩
theorem intBin_noid {op : BinOp} {k : IntKind} {a b : Int} {v : V} (h : intBin op k a b = some v) : v.noid = true := by
  unfold intBin at h
  split at h <;> first
    | (simp only [Option.some.injEq] at h; subst h; rfl)
    | (split at h <;> first | (simp only [Option.some.injEq] at h; subst h; rfl) | cases h)
    | cases h
theorem strBin_noid {op : BinOp} {a b : List UInt8} {v : V} (h : strBin op a b = some v) : v.noid = true := by
  unfold strBin at h
  split at h <;> first
    | (simp only [Option.some.injEq] at h; subst h; rfl)
    | cases h
theorem binV_rel {op : BinOp} {a b a' b' v : V} (ha : VRel R a a') (hb : VRel R b b') (h : binV op a b = some v) : a' = a ∧ b' = b ∧ v.noid = true := by
  unfold binV at h
  split at h
  · simp only [VRel] at ha hb
    split at h
    · exact ⟨ha, hb, intBin_noid h⟩
    · cases h
  · simp only [VRel] at ha hb
    exact ⟨ha, hb, strBin_noid h⟩
  · cases h
theorem lenV_rel {b : Bool} {x x' v : V} (hx : VRel R x x') (h : lenV b x = some v) : ∃ v', lenV b x' = some v' ∧ VRel R v v' := by
  unfold lenV at h
  split at h <;> simp only [Option.some.injEq, reduceCtorEq] at h <;> simp only [VRel] at hx <;> subst h
  · obtain ⟨i, rfl, _⟩ := hx; exact ⟨_, rfl, by simp [VRel]⟩
  · obtain ⟨i, rfl, hr⟩ := hx; exact ⟨_, rfl, by simp [VRel, hr.length]⟩
  · subst hx; exact ⟨_, rfl, by simp [VRel]⟩
  · subst hx; exact ⟨_, rfl, by simp [VRel]⟩
theorem subCells_rel {agg : Bool} {off sz : Nat} {vs us : List V} {v : V} (h : VRelL R vs us) (hv : subCells agg off sz vs = some v) : ∃ v', subCells agg off sz us = some v' ∧ VRel R v v' := by
  unfold subCells at hv ⊢
  cases agg
  · simpa using h.get hv
  · simp only [if_true, Option.some.injEq] at hv ⊢
    subst hv
    exact ⟨_, rfl, VRel.agg ((h.drop off).take sz)⟩
theorem fldV_rel {agg : Bool} {off sz : Nat} {x x' v : V} (hx : VRel R x x') (h : fldV agg off sz x = some v) : ∃ v', fldV agg off sz x' = some v' ∧ VRel R v v' := by
  unfold fldV at h
  split at h
  · obtain ⟨c, rfl, hr⟩ := VRel.agg_iff.1 hx
    exact subCells_rel hr h
  · cases h
theorem fldAV_rel {agg : Bool} {off sz : Nat} {x x' v : V} (hx : VRel R x x') (h : fldAV agg off sz x = some v) : ∃ v', fldAV agg off sz x' = some v' ∧ VRel R v v' := by
  unfold fldAV at h
  split at h
  · simp only [VRel] at hx
    obtain ⟨i, rfl, hr⟩ := hx
    simp only [Option.some.injEq] at h; subst h
    exact ⟨_, rfl, by simp only [VRel]; exact ⟨i, rfl, hr⟩⟩
  · simp only [VRel] at hx
    obtain ⟨u, rfl, hr⟩ := hx
    simp only [Option.map_eq_some_iff] at h
    obtain ⟨w, hw, rfl⟩ := h
    obtain ⟨w', h1, h2⟩ := subCells_rel hr.cells hw
    exact ⟨.rp w', by simp [fldAV, h1], VRel.rp h2⟩
  · cases h
theorem idxAV_rel (hm : Lv R σc σ) {esz : Nat} {x i x' i' v : V} (hx : VRel R x x') (hi : VRel R i i') (h : idxAV σc esz x i = some v) : ∃ v', idxAV σ esz x' i' = some v' ∧ VRel R v v' := by
  unfold idxAV at h
  split at h
  · simp only [VRel] at hx hi
    obtain ⟨a, rfl, ha⟩ := hx
    subst hi
    split at h
    · rename_i ob hob
      obtain ⟨rows', h1, h2⟩ := hm _ _ _ ha hob
      split at h
      · rename_i hc
        simp only [Option.some.injEq] at h; subst h
        refine ⟨_, ?_, by simp only [VRel]; exact ⟨a, rfl, ha⟩⟩
        simp only [idxAV, h1]
        rw [if_pos hc]
      · cases h
    · cases h
  · simp only [VRel] at hx hi
    obtain ⟨rows', rfl, hr⟩ := hx
    subst hi
    split at h
    · rename_i hc
      split at h
      · rename_i r hrr
        simp only [Option.some.injEq] at h; subst h
        obtain ⟨u, h1, h2⟩ := hr.get hrr
        refine ⟨.rp u, ?_, VRel.rp h2⟩
        simp only [idxAV, h1]
        rw [if_pos hc]
      · cases h
    · cases h
  · cases h
theorem idxAAV_rel {agg : Bool} {n esz : Nat} {x i x' i' v : V} (hx : VRel R x x') (hi : VRel R i i') (h : idxAAV agg n esz x i = some v) : ∃ v', idxAAV agg n esz x' i' = some v' ∧ VRel R v v' := by
  unfold idxAAV at h
  split at h
  · simp only [VRel] at hx hi
    obtain ⟨a, rfl, ha⟩ := hx
    subst hi
    split at h
    · rename_i hc
      simp only [Option.some.injEq] at h; subst h
      exact ⟨_, by simp only [idxAAV]; rw [if_pos hc], by simp only [VRel]; exact ⟨a, rfl, ha⟩⟩
    · cases h
  · simp only [VRel] at hx hi
    obtain ⟨u, rfl, hr⟩ := hx
    subst hi
    split at h
    · rename_i hc
      simp only [Option.map_eq_some_iff] at h
      obtain ⟨w, hw, rfl⟩ := h
      obtain ⟨w', h1, h2⟩ := subCells_rel hr.cells hw
      exact ⟨.rp w', by simp only [idxAAV]; rw [if_pos hc, h1]; rfl, VRel.rp h2⟩
    · cases h
  · cases h
theorem idxVV_rel {agg : Bool} {n esz : Nat} {x i x' i' v : V} (hx : VRel R x x') (hi : VRel R i i') (h : idxVV agg n esz x i = some v) : ∃ v', idxVV agg n esz x' i' = some v' ∧ VRel R v v' := by
  unfold idxVV at h
  split at h
  · obtain ⟨c, rfl, hr⟩ := VRel.agg_iff.1 hx
    rw [VRel.int_iff] at hi
    subst hi
    split at h
    · rename_i hc
      obtain ⟨w', h1, h2⟩ := subCells_rel hr h
      exact ⟨w', by simp only [idxVV]; rw [if_pos hc, h1], h2⟩
    · cases h
  · cases h
theorem idxSV_rel {x i x' i' v : V} (hx : VRel R x x') (hi : VRel R i i') (h : idxSV x i = some v) : ∃ v', idxSV x' i' = some v' ∧ VRel R v v' := by
  have h0 := h
  unfold idxSV at h
  split at h
  · rw [VRel.str_iff] at hx
    rw [VRel.int_iff] at hi
    subst hx hi
    refine ⟨v, h0, ?_⟩
    split at h
    · split at h
      · simp only [Option.some.injEq] at h; subst h; simp [VRel]
      · cases h
    · cases h
  · cases h
theorem loadV_rel (hm : Lv R σc σ) {agg : Bool} {sz : Nat} {x x' v : V} (hx : VRel R x x') (h : loadV σc agg sz x = some v) : ∃ v', loadV σ agg sz x' = some v' ∧ VRel R v v' := by
  unfold loadV at h
  split at h
  · simp only [VRel] at hx
    obtain ⟨a, rfl, ha⟩ := hx
    split at h
    · rename_i ob hob
      obtain ⟨rows', h1, h2⟩ := hm _ _ _ ha hob
      split at h
      · rename_i r hr
        obtain ⟨r', h3, h4⟩ := h2.get hr
        have hl := h4.cells.length
        simp only [loadV, h1, h3, hl]
        cases agg
        · simp only [Bool.false_eq_true, if_false] at h ⊢
          exact h4.cells.get h
        · simp only [if_true] at h ⊢
          split at h
          · rename_i hc
            simp only [Option.some.injEq] at h; subst h
            exact ⟨_, by rw [if_pos hc], VRel.agg h4.cells⟩
          · split at h
            · rename_i hc hc'
              rw [if_neg hc, if_pos hc']
              simp only [Option.some.injEq] at h; subst h
              exact ⟨_, rfl, VRel.agg ((h4.cells.drop _).take _)⟩
            · cases h
      · cases h
    · cases h
  · simp only [VRel] at hx
    obtain ⟨u, rfl, hr⟩ := hx
    rename_i w
    have hl := hr.cells.length
    cases agg
    · simp only [Bool.false_eq_true, if_false] at h
      split at h
      · cases h
      · simp only [Option.some.injEq] at h; subst h
        rename_i hna
        refine ⟨u, ?_, hr⟩
        cases u <;> simp only [loadV, Bool.false_eq_true, if_false]
        cases w <;> simp only [VRel] at hr <;> simp at hr hna
    · simp only [if_true] at h
      split at h
      · rename_i hc
        simp only [Option.some.injEq] at h; subst h
        refine ⟨_, ?_, VRel.agg hr.cells⟩
        simp only [loadV, hl, if_true]
        rw [if_pos hc]
      · cases h
  · cases h
theorem boundV_rel {d : Int} : ∀ {o o' : Option V}, (match o, o' with | none, none => True | some x, some x' => VRel R x x' | _, _ => False) → ∀ {j : Int}, boundV d o = some j → boundV d o' = some j
  | none, none, _, j, h => h
  | some x, some x', hx, j, h => by
    simp only at hx
    cases x <;> simp only [boundV] at h <;> first | cases h | skip
    rw [VRel.int_iff] at hx
    subst hx
    rfl
  | none, some _, hx, _, _ => hx.elim
  | some _, none, hx, _, _ => hx.elim
theorem sliceV_rel (hm : Lv R σc σ) {esz : Nat} {x x' v : V} {lo hi mx lo' hi' mx' : Option V} (hx : VRel R x x')
    (h1 : ∀ d j, boundV d lo = some j → boundV d lo' = some j) (h2 : ∀ d j, boundV d hi = some j → boundV d hi' = some j) (h3 : ∀ d j, boundV d mx = some j → boundV d mx' = some j)
    (h : sliceV σc esz x lo hi mx = some v) : ∃ v', sliceV σ esz x' lo' hi' mx' = some v' ∧ VRel R v v' := by
  unfold sliceV at h
  split at h
  · simp only [VRel] at hx
    obtain ⟨a, rfl, ha⟩ := hx
    split at h
    · rename_i l hh m e1 e2 e3
      split at h
      · rename_i hc
        simp only [Option.some.injEq] at h; subst h
        have hsz : szIs σ a esz = true := by
          have hz := hc.2.2.2.2
          unfold szIs at hz ⊢
          split at hz
          · rename_i ob hob
            obtain ⟨rows', g1, g2⟩ := hm _ _ _ ha hob
            rw [g1]; exact hz
          · cases hz
        refine ⟨_, ?_, by simp only [VRel]; exact ⟨a, rfl, ha⟩⟩
        simp only [sliceV, h1 _ _ e1, h2 _ _ e2, h3 _ _ e3]
        rw [if_pos ⟨hc.1, hc.2.1, hc.2.2.1, hc.2.2.2.1, hsz⟩]
      · cases h
    · cases h
  · simp only [VRel] at hx
    obtain ⟨rows', rfl, hr⟩ := hx
    have hl := hr.length
    split at h
    · rename_i l hh m e1 e2 e3
      split at h
      · rename_i hc
        simp only [Option.some.injEq] at h; subst h
        refine ⟨.sl _ ((rows'.drop l.toNat).take (hh.toNat - l.toNat)), ?_, by simp only [VRel]; exact ⟨_, rfl, (hr.drop _).take _⟩⟩
        simp only [sliceV, h1 _ _ e1, hl, h2 _ _ e2, h3 _ _ e3]
        rw [if_pos hc]
      · cases h
    · cases h
  · simp only [VRel] at hx
    subst hx
    split at h
    · rename_i l hh m e1 e2 e3
      split at h
      · rename_i hc
        simp only [Option.some.injEq] at h; subst h
        refine ⟨.nils, ?_, by simp [VRel]⟩
        simp only [sliceV, h1 _ _ e1, h2 _ _ e2, h3 _ _ e3]
        rw [if_pos hc]
      · cases h
    · cases h
  · cases h
theorem sliceSV_rel {x x' v : V} {lo hi lo' hi' : Option V} (hx : VRel R x x')
    (h1 : ∀ d j, boundV d lo = some j → boundV d lo' = some j) (h2 : ∀ d j, boundV d hi = some j → boundV d hi' = some j)
    (h : sliceSV x lo hi = some v) : ∃ v', sliceSV x' lo' hi' = some v' ∧ VRel R v v' := by
  unfold sliceSV at h
  split at h
  · rw [VRel.str_iff] at hx
    subst hx
    split at h
    · rename_i l hh e1 e2
      split at h
      · rename_i hc
        simp only [Option.some.injEq] at h; subst h
        refine ⟨_, ?_, VRel.str_iff.2 rfl⟩
        simp only [sliceSV, h1 _ _ e1, h2 _ _ e2]
        rw [if_pos hc]
      · cases h
    · cases h
  · cases h
theorem nilCheckV_rel {x x' v : V} (hx : VRel R x x') (h : nilCheckV x = some v) : ∃ v', nilCheckV x' = some v' ∧ VRel R v v' := by
  unfold nilCheckV at h
  split at h <;> first | cases h | skip
  all_goals (have hx0 := hx; simp only [VRel] at hx; obtain ⟨i, rfl, _⟩ := hx; exact ⟨_, rfl, hx0⟩)
theorem binBV_rel {neg : Bool} {x y x' y' v : V} (hx : VRel R x x') (hy : VRel R y y') (h : binBV neg x y = some v) : ∃ v', binBV neg x' y' = some v' ∧ VRel R v v' := by
  have h0 := h
  unfold binBV at h
  split at h
  · rw [VRel.bool_iff] at hx hy
    subst hx hy
    refine ⟨v, h0, ?_⟩
    simp only [Option.some.injEq] at h; subst h; simp [VRel]
  · cases h
theorem minmaxV_rel {m : Bool} {x y x' y' v : V} (hx : VRel R x x') (hy : VRel R y y') (h : minmaxV m x y = some v) : ∃ v', minmaxV m x' y' = some v' ∧ VRel R v v' := by
  have h0 := h
  unfold minmaxV at h
  split at h
  · rw [VRel.int_iff] at hx hy
    subst hx hy
    refine ⟨v, h0, ?_⟩
    split at h
    · simp only [Option.some.injEq] at h; subst h; simp [VRel]
    · cases h
  · cases h
theorem eqCell_rel {x y x' y' : V} {b : Bool} (hx : VRel R x x') (hy : VRel R y y') (h : eqCell x y = some b) : x' = x ∧ y' = y := by
  unfold eqCell at h
  split at h <;> first | cases h | skip
  all_goals simp only [VRel] at hx hy
  all_goals exact ⟨hx, hy⟩
theorem eqCells_rel : ∀ {l m l' m' : List V} {b : Bool}, VRelL R l l' → VRelL R m m' → eqCells l m = some b → l' = l ∧ m' = m
  | [], [], _, _, _, h1, h2, _ => by rw [VRelL.nil_iff] at h1 h2; exact ⟨h1, h2⟩
  | v :: vs, u :: us, _, _, b, h1, h2, h => by
    obtain ⟨v', vs', rfl, g1, g2⟩ := VRelL.cons_iff.1 h1
    obtain ⟨u', us', rfl, g3, g4⟩ := VRelL.cons_iff.1 h2
    simp only [eqCells] at h
    split at h
    · rename_i e1 e2
      obtain ⟨rfl, rfl⟩ := eqCell_rel g1 g3 e1
      obtain ⟨rfl, rfl⟩ := eqCells_rel g2 g4 e2
      exact ⟨rfl, rfl⟩
    · cases h
  | [], _ :: _, _, _, _, _, _, h => by simp [eqCells] at h
  | _ :: _, [], _, _, _, _, _, h => by simp [eqCells] at h
theorem eqSV_rel {neg : Bool} {ks : List Nat} {x y x' y' v : V} (hx : VRel R x x') (hy : VRel R y y') (h : eqSV neg ks x y = some v) : ∃ v', eqSV neg ks x' y' = some v' ∧ VRel R v v' := by
  have h0 := h
  unfold eqSV at h
  split at h
  · obtain ⟨c, rfl, g1⟩ := VRel.agg_iff.1 hx
    obtain ⟨d, rfl, g2⟩ := VRel.agg_iff.1 hy
    split at h
    · split at h
      · rename_i e
        obtain ⟨rfl, rfl⟩ := eqCells_rel g1 g2 e
        refine ⟨v, h0, ?_⟩
        simp only [Option.some.injEq] at h; subst h; simp [VRel]
      · cases h
    · cases h
  · cases h
theorem bytesOf_rel : ∀ {l m : List V} {b : List UInt8}, VRelL R l m → bytesOf l = some b → m = l
  | [], _, _, h, _ => by rw [VRelL.nil_iff] at h; exact h
  | v :: vs, _, b, h, hb => by
    obtain ⟨u, us, rfl, g1, g2⟩ := VRelL.cons_iff.1 h
    simp only [bytesOf] at hb
    split at hb
    · rename_i e1 e2
      rw [bytesOf_rel g2 e2]
      cases v <;> simp [byteOf] at e1
      rw [VRel.int_iff] at g1
      rw [g1]
    · cases hb
theorem bytesV_rel (hm : Lv R σc σ) {x x' v : V} (hx : VRel R x x') (h : bytesV σc x = some v) : ∃ v', bytesV σ x' = some v' ∧ VRel R v v' := by
  unfold bytesV at h
  split at h
  · simp only [VRel] at hx; subst hx
    simp only [Option.some.injEq] at h; subst h
    exact ⟨_, rfl, by simp [VRel]⟩
  · simp only [VRel] at hx
    obtain ⟨a, rfl, ha⟩ := hx
    split at h
    · rename_i ob hob
      obtain ⟨rows', h1, h2⟩ := hm _ _ _ ha hob
      split at h
      · rename_i hc
        simp only [Option.map_eq_some_iff] at h
        obtain ⟨l, hl, rfl⟩ := h
        have e := bytesOf_rel ((h2.drop _).take _) hl
        refine ⟨_, ?_, VRel.str_iff.2 rfl⟩
        simp only [bytesV, h1, h2.length, e, hl, Option.map_some]
        rw [if_pos hc]
      · cases h
    · cases h
  · cases h
theorem extV_rel {i : Nat} {x x' v : V} (hx : VRel R x x') (h : extV i x = some v) : ∃ v', extV i x' = some v' ∧ VRel R v v' := by
  unfold extV at h
  split at h
  · simp only [VRel] at hx
    obtain ⟨c, rfl, hr⟩ := hx
    exact hr.get h
  · cases h
def PartsRel (R : Nat → Nat → Prop) : List (Nat × Nat × V) → List (Nat × Nat × V) → Prop
  | [], l => l = []
  | p :: ps, l => ∃ u us, l = (p.1, p.2.1, u) :: us ∧ VRel R p.2.2 u ∧ PartsRel R ps us
theorem buildV_rel : ∀ {ps ps' : List (Nat × Nat × V)} {z z' l : List V}, VRelL R z z' → PartsRel R ps ps' → buildV z ps = some l → ∃ l', buildV z' ps' = some l' ∧ VRelL R l l'
  | [], _, z, z', l, hz, hp, h => by
    simp only [PartsRel] at hp; subst hp
    simp only [buildV, Option.some.injEq] at h; subst h
    exact ⟨_, rfl, hz⟩
  | (off, sz, x) :: ps, _, z, z', l, hz, hp, h => by
    simp only [PartsRel] at hp
    obtain ⟨u, us, rfl, h1, h2⟩ := hp
    simp only [buildV] at h ⊢
    split at h
    · rename_i hc
      rw [if_pos ⟨by rw [h1.cells.length]; exact hc.1, by rw [h1.stays]; exact hc.2.1, by rw [hz.length]; exact hc.2.2⟩]
      refine buildV_rel ?_ h2 h
      unfold splice
      rw [h1.cells.length]
      exact ((hz.take _).append h1.cells).append (hz.drop _)
    · cases h
theorem bound_ev (hs : ∀ i, VRel R (s i) (s' i)) {lo : Option VX} (h : ∀ x ∈ lo.toList, okX x = true) (d j : Int) : boundV d (lo.map (·.ev s)) = some j → boundV d (lo.map (·.ev s')) = some j := by
  refine boundV_rel (R := R) ?_
  cases lo with
  | none => trivial
  | some x => exact ev_rel hs (h x (by simp))
theorem vpure_rel (hm : Lv R σc σ) (hs : ∀ i, VRel R (s i) (s' i)) {op : VOp} (hok : okOp op = true) {v : V} (hp : vpre s op) (h : vpure σc s op = some v) :
    vpre s' op ∧ ∃ v', vpure σ s' op = some v' ∧ VRel R v v' := by
  have hok' := hok
  simp only [okOp, Bool.and_eq_true] at hok
  have hx := List.all_eq_true.1 hok.1
  have E : ∀ x, x ∈ op.xs → VRel R (x.ev s) (x.ev s') := fun x h => ev_rel hs (hx x h)
  cases op <;> simp only [VOp.xs, List.mem_cons, List.not_mem_nil, or_false, forall_eq_or_imp, forall_eq, List.mem_append] at E <;> simp only [vpure, vpre, Option.some.injEq, reduceCtorEq, true_and] at h hp ⊢
  case mov => subst h; exact ⟨_, rfl, E⟩
  case pick c a b =>
    split at h
    · rename_i t ht
      have := E.1
      rw [ht, VRel.bool_iff] at this
      rw [this]
      simp only [Option.some.injEq] at h ⊢
      subst h
      refine ⟨_, rfl, ?_⟩
      cases t
      · exact E.2.2
      · exact E.2.1
    · cases h
  case bin op x y =>
    obtain ⟨e1, e2, e3⟩ := binV_rel E.1 E.2 h
    rw [e1, e2]
    exact ⟨hp, v, h, noid_refl v e3⟩
  case not x =>
    split at h
    · rename_i b hb
      rw [hb, VRel.bool_iff] at E
      rw [E]
      simp only [Option.some.injEq] at h ⊢; subst h
      exact ⟨_, rfl, by simp [VRel]⟩
    · cases h
  case neg x =>
    split at h
    · rename_i k b hb
      rw [hb] at hp
      rw [hb, VRel.int_iff] at E
      rw [E]
      simp only [Option.some.injEq] at h ⊢; subst h
      exact ⟨hp, _, rfl, by simp [VRel]⟩
    · cases h
  case len => exact lenV_rel E h
  case cap =>
    unfold capV at h
    split at h
    · rename_i hn
      rw [hn] at E
      simp only [VRel] at E
      rw [E]
      simp only [Option.some.injEq] at h
      subst h
      exact ⟨_, rfl, by simp [VRel]⟩
    · cases h
  case fld => exact fldV_rel E h
  case fldA => exact fldAV_rel E h
  case idxA => exact idxAV_rel hm E.1 E.2 h
  case idxAA => exact idxAAV_rel E.1 E.2 h
  case idxV => exact idxVV_rel E.1 E.2 h
  case idxS => exact idxSV_rel E.1 E.2 h
  case load => exact loadV_rel hm E h
  case slice esz x lo hi mx =>
    have hx' := hx
    simp only [VOp.xs, List.mem_cons, List.mem_append] at hx'
    exact sliceV_rel hm E.1 (bound_ev hs fun y hy => hx' y (.inr (.inl (.inl hy)))) (bound_ev hs fun y hy => hx' y (.inr (.inl (.inr hy)))) (bound_ev hs fun y hy => hx' y (.inr (.inr hy))) h
  case sliceS x lo hi =>
    have hx' := hx
    simp only [VOp.xs, List.mem_cons, List.mem_append] at hx'
    exact sliceSV_rel E.1 (bound_ev hs fun y hy => hx' y (.inr (.inl hy))) (bound_ev hs fun y hy => hx' y (.inr (.inr hy))) h
  case ext => exact extV_rel E h
  case more m xs =>
    by_cases hb : ∃ f, m = .mkB f
    · obtain ⟨f, rfl⟩ := hb
      exact absurd hok.2 (by simp)
    cases xs with
    | nil => cases m <;> first | exact absurd ⟨_, rfl⟩ hb | simp [vpure] at h
    | cons x xs =>
      have ex := E x (by simp)
      cases xs with
      | cons y ys => cases m <;> first | exact absurd ⟨_, rfl⟩ hb | simp [vpure] at h
      | nil =>
        cases m
        case mkB => exact absurd ⟨_, rfl⟩ hb
        case mkI t =>
          simp only [Option.some.injEq] at h ⊢
          subst h
          exact ⟨_, rfl, by simp only [VRel]; exact ⟨_, rfl, ex⟩⟩
        case tas t ok z =>
          have hz : z.noid = true := hok.2
          simp only [] at h ⊢
          unfold tasV at h ⊢
          split at h
          · rename_i t' v' hv'
            rw [hv'] at ex
            simp only [VRel] at ex
            obtain ⟨u, hu, hru⟩ := ex
            rw [hu]
            simp only
            split at h
            · rename_i e
              rw [if_pos e]
              simp only [Option.some.injEq] at h ⊢
              subst h
              refine ⟨_, rfl, ?_⟩
              cases ok
              · exact hru
              · simp only [if_true, VRel, VRelL]; exact ⟨_, rfl, _, _, rfl, hru, _, _, rfl, rfl, rfl⟩
            · rename_i e
              rw [if_neg e]
              cases ok
              · simp at h
              · simp only [if_true, Option.some.injEq] at h ⊢
                subst h
                refine ⟨_, rfl, ?_⟩
                simp only [VRel, VRelL]; exact ⟨_, rfl, _, _, rfl, noid_refl z hz, _, _, rfl, rfl, rfl⟩
          · rename_i hv'
            rw [hv'] at ex
            simp only [VRel] at ex
            rw [ex]
            cases ok
            · simp at h
            · simp only [if_true, Option.some.injEq] at h ⊢
              subst h
              refine ⟨_, rfl, ?_⟩
              simp only [VRel, VRelL]; exact ⟨_, rfl, _, _, rfl, noid_refl z hz, _, _, rfl, rfl, rfl⟩
          · cases h
        all_goals simp [vpure] at h
  case mkfn f xs =>
    subst h
    exact ⟨_, rfl, by simp only [VRel]; exact ⟨_, rfl, evs_rel hs hok.1⟩⟩
  case convI k x =>
    split at h
    · rename_i k' b hb
      rw [hb] at hp
      rw [hb, VRel.int_iff] at E
      rw [E]
      simp only [Option.some.injEq] at h ⊢; subst h
      exact ⟨hp, _, rfl, by simp [VRel]⟩
    · cases h
  case nilCheck => exact nilCheckV_rel E h
  case binB => exact binBV_rel E.1 E.2 h
  case eqS => exact eqSV_rel E.1 E.2 h
  case minmax => exact minmaxV_rel E.1 E.2 h
  case bstr => exact bytesV_rel hm E h
  case build zero parts =>
    simp only [Option.map_eq_some_iff] at h
    obtain ⟨l, hl, rfl⟩ := h
    have hpr : ∀ ps : List (Nat × Nat × VX), (∀ p ∈ ps, okX p.2.2 = true) → PartsRel R (ps.map fun p => (p.1, p.2.1, p.2.2.ev s)) (ps.map fun p => (p.1, p.2.1, p.2.2.ev s')) := by
      intro ps
      induction ps with
      | nil => intro _; simp [PartsRel]
      | cons p ps ih =>
        intro hps
        simp only [List.map_cons, PartsRel]
        exact ⟨_, _, rfl, ev_rel hs (hps p (by simp)), ih fun q hq => hps q (by simp [hq])⟩
    obtain ⟨l', h1, h2⟩ := buildV_rel (noidL_refl zero hok.2) (hpr parts fun p hp => hx _ (by simp only [VOp.xs, List.mem_map]; exact ⟨p, hp, rfl⟩)) hl
    exact ⟨.agg l', by rw [h1]; rfl, VRel.agg h2⟩
end
end Go.Vc
namespace Go.Vc
variable {R : Nat → Nat → Prop} {K : Store} {fl : Nat} {P : Program} {n : Nat}
structure SRel (K : Store) (fl : Nat) (R : Nat → Nat → Prop) (cs : CS) (st : St) : Prop where
  slot : ∀ i, VRel R (cs.sf i) (st.s i)
  mem : MRel K fl R (stF cs.σ) cs.nxt st.σ
theorem slots_put {s s' : Nat → V} (h : ∀ i, VRel R (s i) (s' i)) {d : Option Nat} {v u : V} (hv : VRel R v u) : ∀ i, VRel R (putO s d v i) (putO s' d u i) := by
  intro i
  cases d with
  | none => exact h i
  | some d =>
    show VRel R (if i = d then v else s i) (if i = d then u else s' i)
    split
    · exact hv
    · exact h i
theorem SRel.put {cs : CS} {st : St} (h : SRel K fl R cs st) {d : Option Nat} {v u : V} (hv : VRel R v u) : SRel K fl R (cs.put d v) ⟨putO st.s d u, st.σ⟩ := by
  refine ⟨?_, ?_⟩
  · rw [sf_put]; exact slots_put h.slot hv
  · rw [(put_σ cs d v).1, (put_σ cs d v).2]; exact h.mem
theorem VRel.nilt : VRel R (.tup []) (.tup []) := by simp [VRel, VRelL]
theorem eqQ_eq (a b : Int) : eqQ a b = decide (a = b) := by
  cases a <;> cases b <;> rw [Bool.eq_iff_iff] <;> simp [eqQ] <;> first | rfl | omega
theorem leQ_eq (a b : Int) : leQ a b = decide (a ≤ b) := by
  cases a <;> cases b <;> rw [Bool.eq_iff_iff] <;> simp only [leQ, Nat.ble_eq, decide_eq_true_eq, Bool.false_eq_true, false_iff, true_iff, Int.ofNat_eq_natCast] <;> omega
theorem addQ_eq (a b : Int) : addQ a b = a + b := by cases a <;> cases b <;> rfl
theorem subQ_eq (a b : Int) : subQ a b = a - b := by
  cases a <;> cases b <;> simp only [subQ]
  rename_i m k
  cases h : Nat.ble k m
  · have : ¬ k ≤ m := by rw [← Nat.ble_eq]; simp [h]
    simp only [Nat.sub_eq, Int.ofNat_eq_natCast]
    omega
  · have : k ≤ m := Nat.le_of_ble_eq_true h
    simp only [Nat.sub_eq, Int.ofNat_eq_natCast]
    omega
theorem in64_eq {a : Int} (h : in64 a = true) : inR .i64 a := by
  cases a <;> simp only [in64, Nat.ble_eq] at h
  · rw [Int.ofNat_eq_natCast]; exact inR_i64 (by omega) (by omega)
  · exact inR_i64 (by omega) (by omega)
theorem inRB_eq {k : IntKind} {a : Int} (h : inRB k a = true) : inR k a := by
  unfold inRB at h
  split at h
  · exact in64_eq h
  · simpa [inR] using h
theorem bcase {α : Type} {b : Bool} {x y : α} : @Bool.casesOn (fun _ => α) b x y = if b then y else x := by cases b <;> rfl
theorem brec {α : Type} {b : Bool} {x y : α} : @Bool.rec (fun _ => α) x y b = if b then y else x := by cases b <;> rfl
theorem gI_eq {k : IntKind} {a : Int} {v : V} (h : gI k a = some v) : v = .int k a ∧ inR k a := by
  unfold gI at h
  rw [bcase] at h
  split at h
  · rename_i hi
    simp only [Option.some.injEq] at h
    exact ⟨h.symm, inRB_eq hi⟩
  · cases h
theorem intBinQ_eq {op : BinOp} {k : IntKind} {a b : Int} {v : V} (h : (intBinQ op).f k a b = some v) : intPre op k a b ∧ intBin op k a b = some v := by
  unfold intBinQ at h
  split at h <;> simp only [] at h
  · obtain ⟨rfl, h2⟩ := gI_eq h; rw [addQ_eq] at *; exact ⟨h2, rfl⟩
  · obtain ⟨rfl, h2⟩ := gI_eq h; rw [subQ_eq] at *; exact ⟨h2, rfl⟩
  · obtain ⟨rfl, h2⟩ := gI_eq h; exact ⟨h2, rfl⟩
  · split at h
    · cases h
    · rename_i hb
      obtain ⟨rfl, h2⟩ := gI_eq h; exact ⟨h2, by simp [intBin, hb]⟩
  · split at h
    · cases h
    · rename_i hb
      simp only [Option.some.injEq] at h; subst h
      exact ⟨trivial, by simp [intBin, hb]⟩
  all_goals first
    | (simp only [Option.some.injEq] at h; subst h; refine ⟨trivial, ?_⟩; simp only [eqQ_eq, leQ_eq, intBin, Option.some.injEq, V.bool.injEq]; try (rw [Bool.eq_iff_iff]; simp))
    | cases h
theorem strBinQ_eq {op : BinOp} {a b : List UInt8} {v : V} (h : strBinQ op a b = some v) : strPre op a b ∧ strBin op a b = some v := by
  unfold strBinQ at h
  split at h
  · rw [bcase] at h
    split at h
    · rename_i hb
      simp only [Option.some.injEq] at h; subst h
      exact ⟨Nat.le_of_ble_eq_true hb, rfl⟩
    · cases h
  · exact ⟨trivial, h⟩
  · exact ⟨trivial, h⟩
  · cases h
theorem sameK_eq {k k' : IntKind} (h : sameK k k' = true) : k = k' := by
  unfold sameK at h
  rw [bcase] at h
  cases k <;> cases k' <;> simp_all [is64, eqK]
theorem binQ_eq {op : BinOp} {x y v : V} (h : binQ op (intBinQ op).f y x = some v) : binPre op x y ∧ binV op x y = some v := by
  unfold binQ at h
  split at h
  · unfold binI at h
    split at h
    · rw [bcase] at h
      split at h
      · rename_i hk
        have := sameK_eq hk
        subst this
        obtain ⟨h1, h2⟩ := intBinQ_eq h
        exact ⟨h1, by simp [binV, h2]⟩
      · cases h
    · cases h
  · unfold binS at h
    split at h
    · exact strBinQ_eq h
    · cases h
  · cases h
theorem idxQ_eq {σ : Tr (Option Ob)} {esz : Nat} {x i v : V} (h : idxQ σ esz x i = some v) : idxAV (stF σ) esz x i = some v := by
  unfold idxQ at h
  split at h
  · split at h
    · rename_i m hm
      have hj := hm
      unfold natQ at hm
      split at hm
      · simp only [Option.some.injEq] at hm; subst hm
        split at h
        · rename_i ob hob
          rw [bcase] at h
          split at h
          · rename_i hc
            simp only [Bool.and_eq_true, Nat.beq_eq, Nat.blt_eq] at hc
            have e : stF σ _ = some ob := hob
            simp only [idxAV, e]
            rw [if_pos ⟨hc.1, by simp, by simpa using hc.2⟩]
            exact h
          · cases h
        · cases h
      · cases hm
    · cases h
  · split at h
    · rename_i m hm
      unfold natQ at hm
      split at hm
      · simp only [Option.some.injEq] at hm; subst hm
        rw [bcase] at h
        split at h
        · rename_i hc
          rw [Nat.beq_eq] at hc
          simp only [idxAV]
          rw [if_pos ⟨hc, by simp⟩]
          exact h
        · cases h
      · cases hm
    · cases h
  · cases h
theorem idxSQ_eq {x i v : V} (h : idxSQ x i = some v) : idxSV x i = some v := by
  unfold idxSQ at h
  split at h
  · split at h
    · rename_i m hm
      unfold natQ at hm
      split at hm
      · simp only [Option.some.injEq] at hm; subst hm
        simp only [idxSV]
        rw [if_pos (by simp)]
        exact h
      · cases hm
    · cases h
  · cases h
theorem loadQ_eq {σ : Tr (Option Ob)} {agg : Bool} {sz : Nat} {x v : V} (h : loadQ σ agg sz x = some v) : loadV (stF σ) agg sz x = some v := by
  unfold loadQ at h
  split at h
  · split at h
    · rename_i ob hob
      have e : stF σ _ = some ob := hob
      split at h
      · rename_i r hr
        simp only [loadV, e, hr]
        split at h
        · rw [bcase, bcase] at h
          simp only [if_true]
          split at h
          · rename_i hc
            simp only [Bool.and_eq_true, Nat.beq_eq] at hc
            rw [if_pos hc]; exact h
          · rename_i hc
            split at h
            · rename_i hc'
              rw [if_neg (by simpa using hc), if_pos (show _ + sz ≤ _ from Nat.le_of_ble_eq_true hc')]; exact h
            · cases h
        · simpa using h
      · cases h
    · cases h
  · exact h
theorem pure_case {draw : Bool} {call : CallT} {dst : Option Nat} {op : VOp} {cs cs' : CS} {st : St} (hk : okind op = 0) (hok : okOp op = true) (h : SRel K fl R cs st)
    (hr : (compO draw dst op).f call fl cs = some cs') : ∃ v', vpre st.s op ∧ vpure st.σ st.s op = some v' ∧ SRel K fl R cs' ⟨putO st.s dst v', st.σ⟩ := by
  have key : ∃ v, vpre cs.sf op ∧ vpure (stF cs.σ) cs.sf op = some v ∧ cs' = cs.put dst v := by
    have hp : ∀ (g : CS → Option V), (pureB dst g).f call fl cs = some cs' → ∃ v, g cs = some v ∧ cs' = cs.put dst v := by
      intro g hg
      simp only [pureB] at hg
      split at hg
      · rename_i v hv
        simp only [Option.some.injEq] at hg
        exact ⟨v, hv, hg.symm⟩
      · cases hg
    cases op <;> simp only [okind, reduceCtorEq, Nat.reduceEqDiff] at hk <;> simp only [compO] at hr
    case mov x =>
      simp only [movB, Option.some.injEq] at hr
      exact ⟨_, trivial, rfl, hr.symm⟩
    case bin op x y =>
      have hr' : (pureB dst fun cs => binQ op (intBinQ op).f (y.ev cs.sf) (x.ev cs.sf)).f call fl cs = some cs' := hr
      obtain ⟨v, h1, h2⟩ := hp _ hr'
      obtain ⟨h3, h4⟩ := binQ_eq h1
      exact ⟨v, h3, h4, h2⟩
    case pick c a b =>
      obtain ⟨v, h1, h2⟩ := hp _ hr
      refine ⟨v, trivial, ?_, h2⟩
      simp only [vpure]
      unfold pickQ at h1
      split at h1
      · rename_i t ht
        rw [bcase] at h1
        rw [ht]
        exact h1
      · cases h1
    case not x =>
      obtain ⟨v, h1, h2⟩ := hp _ hr
      refine ⟨v, trivial, ?_, h2⟩
      simp only [vpure]
      unfold notQ at h1
      split at h1
      · rename_i t ht; rw [ht]; exact h1
      · cases h1
    case neg x =>
      obtain ⟨v, h1, h2⟩ := hp _ hr
      unfold negQ at h1
      split at h1
      · rename_i k t ht
        obtain ⟨h3, h4⟩ := gI_eq h1
        exact ⟨v, by simp only [vpre, ht]; exact h4, by simp only [vpure, ht, h3], h2⟩
      · cases h1
    case convI k x =>
      obtain ⟨v, h1, h2⟩ := hp _ hr
      unfold convQ at h1
      split at h1
      · rename_i k t ht
        obtain ⟨h3, h4⟩ := gI_eq h1
        exact ⟨v, by simp only [vpre, ht]; exact h4, by simp only [vpure, ht, h3], h2⟩
      · cases h1
    case idxA => obtain ⟨v, h1, h2⟩ := hp _ hr; exact ⟨v, trivial, idxQ_eq h1, h2⟩
    case idxS => obtain ⟨v, h1, h2⟩ := hp _ hr; exact ⟨v, trivial, idxSQ_eq h1, h2⟩
    case load => obtain ⟨v, h1, h2⟩ := hp _ hr; exact ⟨v, trivial, loadQ_eq h1, h2⟩
    all_goals (obtain ⟨v, h1, h2⟩ := hp _ hr; exact ⟨v, trivial, h1, h2⟩)
  obtain ⟨v, h1, h2, rfl⟩ := key
  obtain ⟨h3, v', h4, h5⟩ := vpure_rel h.mem.live h.slot hok h1 h2
  exact ⟨v', h3, h4, h.put h5⟩
theorem srcRows_rel {σc σ : Store} (hm : Lv R σc σ) {sz : Nat} {x x' : V} {l : List V} (hx : VRel R x x') (h : srcRows σc sz x = some l) : ∃ l', srcRows σ sz x' = some l' ∧ VRelL R l l' := by
  unfold srcRows at h
  split at h
  · simp only [VRel] at hx
    obtain ⟨a, rfl, ha⟩ := hx
    split at h
    · rename_i ob hob
      obtain ⟨rows', h1, h2⟩ := hm _ _ _ ha hob
      split at h
      · rename_i hc
        simp only [Option.some.injEq] at h; subst h
        refine ⟨_, ?_, (h2.drop _).take _⟩
        simp only [srcRows, h1, h2.length]
        rw [if_pos hc]
      · cases h
    · cases h
  · simp only [VRel] at hx
    obtain ⟨rows', rfl, hr⟩ := hx
    split at h
    · rename_i hc
      simp only [Option.some.injEq] at h; subst h
      exact ⟨rows', by simp [srcRows, hc], hr⟩
    · cases h
  · simp only [VRel] at hx; subst hx
    simp only [Option.some.injEq] at h; subst h
    exact ⟨[], rfl, by simp [VRelL]⟩
  · rename_i s
    simp only [VRel] at hx; subst hx
    refine ⟨l, h, ?_⟩
    split at h
    · simp only [Option.some.injEq] at h; subst h
      induction s with
      | nil => simp [VRelL]
      | cons b s ih => simp only [List.map_cons, VRelL]; exact ⟨_, _, rfl, by simp [VRel], ih⟩
    · cases h
  · cases h
theorem dstRows_rel {σc σ : Store} (hm : Lv R σc σ) {e sz : Nat} {x x' : V} {l : List V} {d : Option Nat} (hx : VRel R x x') (h : dstRows σc e sz x = some (l, d)) :
    ∃ l' d', dstRows σ e sz x' = some (l', d') ∧ VRelL R l l' ∧ (d = none ∧ d' = none ∨ ∃ c a o, d = some c ∧ d' = some a ∧ R c a ∧ σc c = some o) := by
  unfold dstRows at h
  split at h
  · simp only [VRel] at hx
    obtain ⟨a, rfl, ha⟩ := hx
    split at h
    · rename_i ob hob
      obtain ⟨rows', h1, h2⟩ := hm _ _ _ ha hob
      split at h
      · rename_i hc
        simp only [Option.some.injEq, Prod.mk.injEq] at h
        obtain ⟨rfl, rfl⟩ := h
        refine ⟨_, some a, ?_, h2.take _, .inr ⟨_, a, ob, rfl, rfl, ha, hob⟩⟩
        simp only [dstRows, h1, h2.length]
        rw [if_pos hc]
      · cases h
    · cases h
  · simp only [VRel] at hx; subst hx
    simp only [Option.some.injEq, Prod.mk.injEq] at h
    obtain ⟨rfl, rfl⟩ := h
    exact ⟨[], none, rfl, by simp [VRelL], .inl ⟨rfl, rfl⟩⟩
  · cases h
theorem addRow_rel {dst : Option Nat} {cs cs' : CS} {st : St} (h : SRel K fl R cs st) {m : Mk} {rows' : List V} {d' : Option Nat} (hrows : VRelL R m.ob.rows rows')
    (hd : m.gone = none ∧ d' = none ∨ ∃ c a o, m.gone = some c ∧ d' = some a ∧ R c a ∧ stF cs.σ c = some o) (hr : addRow fl dst cs m = some cs') {id : Nat} (hid : st.σ id = none) :
    ∃ R', (∀ a b, R a b → R' a b) ∧ SRel K fl R' cs' ⟨putO st.s dst (if m.var then .ptr id 0 0 else .own id 0 m.len), upd (delO st.σ d') id ⟨m.ob.elem, m.ob.sz, rows'⟩⟩ := by
  refine ⟨ext R cs.nxt id, ext_le _ _, ?_⟩
  have hval : VRel (ext R cs.nxt id) (@Bool.casesOn (fun _ => V) m.var (.own cs.nxt 0 m.len) (.ptr cs.nxt 0 0)) (if m.var then .ptr id 0 0 else .own id 0 m.len) := by
    cases m.var
    · simp only [VRel, Bool.false_eq_true, if_false]; exact ⟨id, rfl, .inr ⟨rfl, rfl⟩⟩
    · simp only [VRel, if_true]; exact ⟨id, rfl, .inr ⟨rfl, rfl⟩⟩
  have hslot : ∀ i, VRel (ext R cs.nxt id) (cs.sf i) (st.s i) := fun i => VRel.mono (ext_le _ _) _ _ (h.slot i)
  unfold addRow at hr
  rcases hd with ⟨e1, rfl⟩ | ⟨c, a, o, e1, rfl, hR, ho⟩
  · rw [e1] at hr
    simp only [Option.some.injEq] at hr
    subst hr
    have hm := h.mem.new hid hrows
    have hS : SRel K fl (ext R cs.nxt id) ⟨cs.s, setP none (some m.ob) cs.nxt cs.σ, Nat.succ cs.nxt⟩ ⟨st.s, upd st.σ id ⟨m.ob.elem, m.ob.sz, rows'⟩⟩ :=
      ⟨hslot, by simp only [stF_set]; exact hm⟩
    exact hS.put hval
  · rw [e1] at hr
    simp only [bcase] at hr
    split at hr
    · rename_i hf
      simp only [Option.some.injEq] at hr
      subst hr
      have h1 := h.mem.rem hR ho (Nat.le_of_ble_eq_true hf)
      have hid' : del st.σ a id = none := by
        by_cases e : id = a
        · simp [del, e]
        · rw [del_ne e]; exact hid
      have hm := h1.new hid' hrows
      have hS : SRel K fl (ext R cs.nxt id) ⟨cs.s, setP none (some m.ob) cs.nxt (setP none none c cs.σ), Nat.succ cs.nxt⟩ ⟨st.s, upd (del st.σ a) id ⟨m.ob.elem, m.ob.sz, rows'⟩⟩ :=
        ⟨hslot, by simp only [stF_set, stF_del]; exact hm⟩
      rw [bcase] at hval
      exact hS.put hval
    · cases hr
theorem row_case {draw : Bool} {call : CallT} {dst : Option Nat} {op : VOp} {cs cs' : CS} {st : St} (hk : okind op = 3) (hok : okOp op = true) (h : SRel K fl R cs st)
    (hr : (compO draw dst op).f call fl cs = some cs') : ∃ g', eff st.s st.σ op = some g' ∧ ∀ id, st.σ id = none → ∃ R', (∀ a b, R a b → R' a b) ∧
      SRel K fl R' cs' ⟨putO st.s dst (g' id).1, (g' id).2⟩ := by
  have hp : ∀ (g : CS → Option Mk), (rowB dst g).f call fl cs = some cs' → ∃ m, g cs = some m ∧ addRow fl dst cs m = some cs' := by
    intro g hg
    simp only [rowB] at hg
    split at hg
    · rename_i v hv
      exact ⟨v, hv, hg⟩
    · cases hg
  simp only [okOp, Bool.and_eq_true] at hok
  have hx := List.all_eq_true.1 hok.1
  cases op <;> simp only [okind, reduceCtorEq, Nat.reduceEqDiff] at hk <;> simp only [compO] at hr
  case more m xs => cases m <;> simp at hk
  case alloc e sz z =>
    obtain ⟨m, h1, h2⟩ := hp _ hr
    simp only [Option.some.injEq] at h1; subst h1
    refine ⟨_, rfl, fun id hid => ?_⟩
    have := addRow_rel (d' := none) h (VRelL.one (noid_refl (R := R) z hok.2)) (.inl ⟨rfl, rfl⟩) h2 hid
    simpa [delO] using this
  case box e sz x =>
    obtain ⟨m, h1, h2⟩ := hp _ hr
    have hv := ev_rel h.slot (hx x (by simp [VOp.xs]))
    unfold boxQ at h1
    rw [bcase] at h1
    split at h1
    · rename_i hc
      simp only [Bool.and_eq_true, Nat.beq_eq] at hc
      simp only [Option.some.injEq] at h1; subst h1
      refine ⟨fun id => (.ptr id 0 0, upd st.σ id ⟨e, sz, [x.ev st.s]⟩), ?_, fun id hid => ?_⟩
      · simp only [eff]
        rw [if_pos ⟨by rw [hv.cells.length]; exact hc.1, by rw [hv.stays]; exact hc.2⟩]
      · have := addRow_rel (d' := none) h (VRelL.one hv) (.inl ⟨rfl, rfl⟩) h2 hid
        simpa [delO] using this
    · cases h1
  case appz => simp [pureB, vpure] at hr
  case mk e sz bytes z x =>
    obtain ⟨m, h1, h2⟩ := hp _ hr
    have hv := ev_rel h.slot (hx x (by simp [VOp.xs]))
    unfold mkQ at h1
    split at h1
    · rename_i kk mm hxe
      rw [hxe] at hv
      simp only [VRel] at hv
      split at h1
      · split at h1
        · rename_i j hj
          rw [bcase] at h1
          split at h1
          · rename_i hc
            simp only [Option.some.injEq] at h1; subst h1
            have hmj : mm = (j : Int) := by
              cases mm <;> simp only [natQ, Option.some.injEq, reduceCtorEq] at hj
              subst hj; rfl
            subst hmj
            refine ⟨fun id => (.own id 0 j, upd st.σ id ⟨e, sz, List.replicate j z⟩), ?_, fun id hid => ?_⟩
            · simp only [eff]
              rw [hv]
              have hc' : j * (bytes + 1) ≤ 140737488355328 := Nat.le_of_ble_eq_true hc
              simp only [Int.toNat_natCast]
              rw [if_pos ⟨by omega, hc'⟩]
            · have := addRow_rel (d' := none) h (VRelL.replicate (noid_refl (R := R) z hok.2) j) (.inl ⟨rfl, rfl⟩) h2 hid
              simpa [delO] using this
          · cases h1
        · cases h1
      · cases h1
    · cases h1
  case bslice e sz xs =>
    obtain ⟨m, h1, h2⟩ := hp _ hr
    have hv := evs_rel h.slot hok.1
    simp only [VOp.xs] at hv
    unfold bsliceQ at h1
    rw [bcase] at h1
    split at h1
    · rename_i hc
      simp only [Option.some.injEq] at h1; subst h1
      refine ⟨fun id => (.own id 0 xs.length, upd st.σ id ⟨e, sz, xs.map (·.ev st.s)⟩), ?_, fun id hid => ?_⟩
      · simp only [eff]
        rw [if_pos]
        rw [List.all_eq_true]
        intro y hy
        rw [List.mem_map] at hy
        obtain ⟨x, hxx, rfl⟩ := hy
        have hvx := ev_rel h.slot (hx x (by simp [VOp.xs, hxx]))
        have := List.all_eq_true.1 hc (x.ev cs.sf) (List.mem_map.2 ⟨x, hxx, rfl⟩)
        simp only [Bool.and_eq_true, Nat.beq_eq] at this
        simp [hvx.cells.length, hvx.stays, this]
      · have := addRow_rel (d' := none) h hv (.inl ⟨rfl, rfl⟩) h2 hid
        simpa [delO] using this
    · cases h1
  case append e sz bytes xa xb =>
    obtain ⟨m, h1, h2⟩ := hp _ hr
    have ha := ev_rel h.slot (hx xa (by simp [VOp.xs]))
    have hb := ev_rel h.slot (hx xb (by simp [VOp.xs]))
    unfold appendQ at h1
    split at h1
    · rename_i base idA src e1 e2
      obtain ⟨base', d', g1, g2, g3⟩ := dstRows_rel h.mem.live ha e1
      obtain ⟨src', g4, g5⟩ := srcRows_rel h.mem.live hb e2
      rw [bcase] at h1
      split at h1
      · rename_i hc
        simp only [Option.some.injEq] at h1; subst h1
        refine ⟨fun id => (.own id 0 (base'.length + src'.length), upd (delO st.σ d') id ⟨e, sz, base' ++ src'⟩), ?_, fun id hid => ?_⟩
        · simp only [eff, g1, g4]
          rw [if_pos (by rw [g2.length, g5.length]; exact Nat.le_of_ble_eq_true hc)]
        · have := addRow_rel h (g2.append g5) g3 h2 hid
          simpa [g2.length, g5.length] using this
      · cases h1
    · cases h1
theorem setRowV_rel {r r' x x' q : V} {k sz : Nat} (hr : VRel R r r') (hx : VRel R x x') (h : setRowV r k sz x = some q) : ∃ q', setRowV r' k sz x' = some q' ∧ VRel R q q' := by
  unfold setRowV at h
  split at h
  · rename_i hc
    have hc' : x'.cells.length = sz ∧ x'.stays = true := ⟨by rw [hx.cells.length]; exact hc.1, by rw [hx.stays]; exact hc.2⟩
    split at h
    · rename_i hd
      simp only [Option.some.injEq] at h; subst h
      refine ⟨x', ?_, hx⟩
      unfold setRowV
      rw [if_pos hc', if_pos ⟨hd.1, by rw [hr.cells.length]; exact hd.2⟩]
    · rename_i hd
      split at h
      · rename_i he
        simp only [Option.some.injEq] at h; subst h
        refine ⟨_, ?_, VRel.agg (((hr.cells.take k).append hx.cells).append (hr.cells.drop (k + sz)))⟩
        unfold setRowV
        rw [if_pos hc', if_neg (by rw [hr.cells.length]; exact hd), if_pos (by rw [hr.cells.length]; exact he)]
      · cases h
  · cases h
theorem store_case {dst : Option Nat} {sz : Nat} {xa xv : VX} {call : CallT} {cs cs' : CS} {st : St} (hok : okOp (.store sz xa xv) = true) (h : SRel K fl R cs st)
    (hr : (storeB dst sz xa xv).f call fl cs = some cs') : ∃ σ', storeS st.σ sz (xa.ev st.s) (xv.ev st.s) = some σ' ∧ SRel K fl R cs' ⟨putO st.s dst (.tup []), σ'⟩ := by
  simp only [okOp, VOp.xs, List.all_cons, List.all_nil, Bool.and_true, Bool.and_eq_true] at hok
  have ha := ev_rel h.slot hok.1
  have hv := ev_rel h.slot hok.2
  simp only [storeB, storeIn] at hr
  split at hr
  · rename_i id i0 c hptr
    rw [hptr] at ha
    simp only [VRel] at ha
    obtain ⟨a, ha1, ha2⟩ := ha
    rw [brec] at hr
    split at hr
    · rename_i hf
      split at hr
      · rename_i ob hob
        have hob' : stF cs.σ id = some ob := hob
        obtain ⟨rows', h1, h2⟩ := h.mem.live _ _ _ ha2 hob'
        split at hr
        · rename_i r hrr
          obtain ⟨r', h3, h4⟩ := h2.get hrr
          split at hr
          · rename_i q hq
            obtain ⟨q', h5, h6⟩ := setRowV_rel h4 hv hq
            simp only [Option.some.injEq] at hr
            subst hr
            refine ⟨upd st.σ a ⟨ob.elem, ob.sz, rows'.set i0 q'⟩, ?_, ?_⟩
            · simp only [storeS, ha1, h1, h3, h5]
            · have hm := h.mem.write ha2 hob' (Nat.le_of_ble_eq_true hf) (h2.set i0 h6)
              have hS : SRel K fl R ⟨cs.s, setP none (some ⟨ob.elem, ob.sz, ob.rows.set i0 q⟩) id cs.σ, cs.nxt⟩ ⟨st.s, upd st.σ a ⟨ob.elem, ob.sz, rows'.set i0 q'⟩⟩ :=
                ⟨h.slot, by simp only [stF_set]; exact hm⟩
              exact hS.put VRel.nilt
          · cases hr
        · cases hr
      · cases hr
    · cases hr
  · cases hr
end Go.Vc
namespace Go.Vc
variable {P : Program} {n : Nat}
def Le (R R' : Nat → Nat → Prop) : Prop := ∀ a b, R a b → R' a b
theorem Le.refl (R : Nat → Nat → Prop) : Le R R := fun _ _ h => h
theorem Le.trans {R R' R'' : Nat → Nat → Prop} (h : Le R R') (h' : Le R' R'') : Le R R'' := fun a b g => h' a b (h a b g)
def CallOk (P : Program) (call : CallT) : Prop := ∀ g args σc nxt fl r, call g args σc nxt fl = some r → ∀ (K : Store) (R : Nat → Nat → Prop) (σ : Store) (args' : List V),
  MRel K fl R (stF σc) nxt σ → VRelL R args args' → Contract P g args' σ fun v σ' => ∃ R', Le R R' ∧ VRel R' r.v v ∧ MRel K fl R' (stF r.σ) r.nxt σ'
theorem Contract.drop {f : FuncId} {args : List V} {σ : Store} {Post Post' : V → Store → Prop} (h : Contract P f args σ Post)
    (hp : ∀ r σ', Post r σ' → ∃ σ0, SubStore σ0 σ' ∧ Post' r σ0) : Contract P f args σ Post' := by
  refine ⟨h.1, fun μ w vals hs hr => (h.2 μ w vals hs hr).mono ?_⟩
  rintro e w' ⟨r, σ', μ', val, h1, h2, h3, h4, h5⟩
  obtain ⟨σ0, h6, h7⟩ := hp r σ' h2
  exact ⟨r, σ0, μ', val, h1, h7, h3, h4.drop h6, Wk.refl h6 r μ' _ _ _ val h4 h5⟩
section
variable {call : CallT} {K : Store} {fl : Nat} {R : Nat → Nat → Prop} {cs cs' : CS} {st : St} {Q : St → Prop} {k : List It}
theorem compI_split {draw : Bool} {i : VIns} (hok : okIns i = true) (h : SRel K fl R cs st) (hr : (compI draw i).f call fl cs = some cs') :
    (wantV st.s i.g = some true ∧ (compO draw i.dst i.op).f call fl cs = some cs') ∨ (wantV st.s i.g = some false ∧ cs' = cs.put i.dst (.tup [])) := by
  simp only [okIns, Bool.and_eq_true] at hok
  unfold compI at hr
  split at hr
  · rename_i hg
    exact .inl ⟨by simp [hg, wantV], hr⟩
  · rename_i x b hg
    have hx := hok.2
    simp only [hg] at hx
    have hv := ev_rel h.slot hx
    simp only [guardB] at hr
    split at hr
    · rename_i c hc
      rw [hc, VRel.bool_iff] at hv
      rw [brec] at hr
      split at hr
      · rename_i hcb
        simp only [Option.some.injEq] at hr
        refine .inr ⟨?_, hr.symm⟩
        simp only [hg, wantV, hv]
        cases c <;> cases b <;> simp_all
      · rename_i hcb
        refine .inl ⟨?_, hr⟩
        simp only [hg, wantV, hv]
        cases c <;> cases b <;> simp_all
    · rename_i hc
      rw [hc] at hv
      simp only [VRel, VRelL] at hv
      obtain ⟨c', hv, rfl⟩ := hv
      simp only [Option.some.injEq] at hr
      exact .inr ⟨by simp only [hg, wantV, hv], hr.symm⟩
    · rename_i hc
      rw [hc, VRel.int_iff] at hv
      simp only [Option.some.injEq] at hr
      exact .inr ⟨by simp only [hg, wantV, hv], hr.symm⟩
    · cases hr
theorem bad_not {draw : Bool} {dst : Option Nat} {op : VOp} (h : op = .bad ∨ (∃ b x, op = .rngS b x) ∨ (∃ x, op = .nxtS x) ∨ ∃ m xs, op = .more m xs ∧ okind op = 4) (hr : (compO draw dst op).f call fl cs = some cs') : False := by
  rcases h with rfl | ⟨b, x, rfl⟩ | ⟨x, rfl⟩ | ⟨m, xs, rfl, hk⟩
  case inr.inr.inr => cases m <;> simp [okind] at hk <;> simp [compO, pureB, vpure] at hr
  all_goals simp [compO, pureB, vpure] at hr
theorem okind_cases (op : VOp) : okind op = 0 ∨ (∃ fx xs, op = .call fx xs) ∨ (∃ sz a x, op = .store sz a x) ∨ okind op = 3 ∨ (∃ sz z x, op = .clear sz z x) ∨ (op = .bad ∨ (∃ b x, op = .rngS b x) ∨ (∃ x, op = .nxtS x) ∨ ∃ m xs, op = .more m xs ∧ okind op = 4) := by
  cases op
  case more m xs => cases m <;> simp [okind]
  all_goals simp [okind]
theorem ins_run (hc : CallOk P call) {i : VIns} {l : List VIns} (hok : okIns i = true) (h : SRel K fl R cs st) (hr : (compI false i).f call fl cs = some cs')
    (hk : ∀ R' st', Le R R' → SRel K fl R' cs' st' → Runs P n (.ops l :: k) st' Q) : Runs P n (.ops (i :: l) :: k) st Q := by
  have hop : okOp i.op = true := by simp only [okIns, Bool.and_eq_true] at hok; exact hok.1
  rcases compI_split hok h hr with ⟨hw, hr⟩ | ⟨hw, rfl⟩
  · rcases okind_cases i.op with h0 | ⟨fx, xs, h0⟩ | ⟨sz, a, x, h0⟩ | h0 | ⟨sz, z, x, h0⟩ | h0
    · obtain ⟨v', h1, h2, h3⟩ := pure_case h0 hop h hr
      exact Runs.pure hw h1 h2 (hk R _ (Le.refl R) h3)
    · rw [h0] at hr hop
      simp only [compO, callB] at hr
      simp only [okOp, VOp.xs, List.all_cons, Bool.and_eq_true] at hop
      split at hr
      · rename_i f caps hf
        have hfx := ev_rel h.slot hop.1.1
        rw [hf] at hfx
        simp only [VRel] at hfx
        obtain ⟨caps', hf', hcaps⟩ := hfx
        generalize hcl : call f (xs.map (·.ev cs.sf) ++ caps) cs.σ cs.nxt fl = r at hr
        cases r with
        | none => simp [callIn] at hr
        | some r =>
          simp only [callIn, Option.some.injEq] at hr
          refine Runs.call hw h0 hf' (hc _ _ _ _ _ _ hcl K R st.σ _ h.mem ((evs_rel h.slot hop.1.2).append hcaps)) ?_
          rintro v σ' ⟨R', hle, hv, hm⟩
          have hS : SRel K fl R' ⟨cs.s, r.σ, r.nxt⟩ ⟨st.s, σ'⟩ := ⟨fun j => VRel.mono hle _ _ (h.slot j), hm⟩
          exact hk R' _ hle (hr ▸ hS.put hv)
      · cases hr
    · rw [h0] at hr hop
      obtain ⟨σ', h1, h2⟩ := store_case hop h hr
      exact Runs.storeS hw h0 h1 (hk R _ (Le.refl R) h2)
    · obtain ⟨g', h1, h2⟩ := row_case h0 hop h hr
      refine Runs.eff hw h1 fun id hid => ?_
      obtain ⟨R', h3, h4⟩ := h2 id hid
      exact hk R' _ h3 h4
    · rw [h0] at hr hop
      simp only [compO, clearB, clearIn] at hr
      simp only [okOp, VOp.xs, List.all_cons, List.all_nil, Bool.and_true, Bool.and_eq_true] at hop
      have hx := ev_rel h.slot hop.1
      split at hr
      · rename_i id off len hid
        rw [hid] at hx
        simp only [VRel] at hx
        obtain ⟨a, ha1, ha2⟩ := hx
        rw [brec] at hr
        split at hr
        · rename_i hf
          split at hr
          · rename_i ob hob
            have hob' : stF cs.σ id = some ob := hob
            obtain ⟨rows', g1, g2⟩ := h.mem.live _ _ _ ha2 hob'
            rw [brec] at hr
            split at hr
            · rename_i hcc
              simp only [Bool.and_eq_true, Nat.beq_eq, Nat.ble_eq] at hcc
              simp only [Option.some.injEq] at hr
              refine Runs.clear hw h0 ha1 g1 hcc.1 (by rw [g2.length]; exact hcc.2) ?_
              have hm := h.mem.write ha2 hob' (Nat.le_of_ble_eq_true hf) (((g2.take off).append (VRelL.replicate (noid_refl (R := R) z hop.2) len)).append (g2.drop (off + len)))
              have hS : SRel K fl R ⟨cs.s, setP none (some ⟨ob.elem, ob.sz, ob.rows.take off ++ List.replicate len z ++ ob.rows.drop (off + len)⟩) id cs.σ, cs.nxt⟩
                  ⟨st.s, upd st.σ a ⟨ob.elem, ob.sz, rows'.take off ++ List.replicate len z ++ rows'.drop (off + len)⟩⟩ := ⟨h.slot, by simp only [stF_set]; exact hm⟩
              exact hk R _ (Le.refl R) (hr ▸ hS.put VRel.nilt)
            · cases hr
          · cases hr
        · cases hr
      · cases hr
    · exact (bad_not h0 hr).elim
  · exact Runs.skipIns hw (hk R _ (Le.refl R) (h.put VRel.nilt))
theorem ins_T (hc : CallOk P call) {i : VIns} (hok : okIns i = true) (h : SRel K fl R cs st) (hr : (compI true i).f call fl cs = some cs') {K' : St → Prop}
    (hk : ∀ R' st', Le R R' → SRel K fl R' cs' st' → K' st') : T P i st K' := by
  have hop : okOp i.op = true := by simp only [okIns, Bool.and_eq_true] at hok; exact hok.1
  rcases compI_split hok h hr with ⟨hw, hr⟩ | ⟨hw, rfl⟩
  · refine T_true hw ?_
    rcases okind_cases i.op with h0 | ⟨fx, xs, h0⟩ | ⟨sz, a, x, h0⟩ | h0 | ⟨sz, z, x, h0⟩ | h0
    · obtain ⟨v', h1, h2, h3⟩ := pure_case h0 hop h hr
      unfold TO
      simp only [h0]
      exact ⟨h1, v', h2, hk R _ (Le.refl R) h3⟩
    · rw [h0] at hr hop
      rw [h0]
      simp only [compO, callB] at hr
      simp only [okOp, VOp.xs, List.all_cons, Bool.and_eq_true] at hop
      split at hr
      · rename_i f caps hf
        have hfx := ev_rel h.slot hop.1.1
        rw [hf] at hfx
        simp only [VRel] at hfx
        obtain ⟨caps', hf', hcaps⟩ := hfx
        generalize hcl : call f (xs.map (·.ev cs.sf) ++ caps) cs.σ cs.nxt cs.nxt = r at hr
        cases r with
        | none => simp [callInD] at hr
        | some r =>
          simp only [callInD, brec] at hr
          split at hr
          · rename_i hno
            simp only [Option.some.injEq] at hr
            refine ⟨f, caps', r.v, hf', fun σ1 hs1 => ?_, hk R _ (Le.refl R) (hr ▸ h.put (noid_refl r.v hno))⟩
            have hm0 : MRel σ1 cs.nxt R (stF cs.σ) cs.nxt σ1 := ⟨h.mem.dom, h.mem.live.sup hs1, h.mem.inj, h.mem.fn, SubStore.refl _, fun _ _ c _ _ hcR _ => h.mem.dom c _ hcR⟩
            refine (hc _ _ _ _ _ _ hcl σ1 R σ1 _ hm0 ((evs_rel h.slot hop.1.2).append hcaps)).drop ?_
            rintro v σ' ⟨R', hle, hv, hm⟩
            exact ⟨σ1, hm.keep, noid_eq _ _ hno hv, rfl⟩
          · cases hr
      · cases hr
    · rw [h0] at hr hop
      rw [h0]
      obtain ⟨σ', h1, h2⟩ := store_case hop h hr
      exact ⟨σ', h1, hk R _ (Le.refl R) h2⟩
    · obtain ⟨g', h1, h2⟩ := row_case h0 hop h hr
      unfold TO
      simp only [h0]
      refine ⟨g', h1, fun id hid => ?_⟩
      obtain ⟨R', h3, h4⟩ := h2 id hid
      exact hk R' _ h3 h4
    · rw [h0] at hr
      simp [compO, clearB] at hr
    · exact (bad_not h0 hr).elim
  · exact T_false hw (hk R _ (Le.refl R) (h.put VRel.nilt))
theorem evOpsN_cons (draw : Bool) (m : Nat) (i : VIns) (l : List VIns) : evOpsN draw call fl (m + 1) (i :: l) cs = match (compI draw i).f call fl cs with
    | some cs' => evOpsN draw call fl m l cs'
    | none => .bad := by
  show (@Option.casesOn CS (fun _ => Out) ((compI draw i).f call fl cs) .bad (evOpsN draw call fl m l)) = _
  cases (compI draw i).f call fl cs <;> rfl
theorem ops_run (hc : CallOk P call) : ∀ (m : Nat) (l : List VIns) (R : Nat → Nat → Prop) (cs : CS) (st : St), evOpsN false call fl m l cs = .nx cs' → l.all okIns = true → SRel K fl R cs st →
    (∀ R' st', Le R R' → SRel K fl R' cs' st' → Runs P n k st' Q) → Runs P n (.ops l :: k) st Q
  | 0, _, _, _, _, h, _, _, _ => by cases h
  | m + 1, [], R, cs, st, h, _, hs, hk => by
    have h' : Out.nx cs = .nx cs' := h
    simp only [Out.nx.injEq] at h'
    subst h'
    exact Runs.ops_nil (hk R st (Le.refl R) hs)
  | m + 1, i :: l, R, cs, st, h, hok, hs, hk => by
    rw [evOpsN_cons] at h
    simp only [List.all_cons, Bool.and_eq_true] at hok
    split at h
    · rename_i cs1 h1
      refine ins_run hc hok.1 hs h1 fun R' st' hle hs' => ?_
      exact ops_run hc m l R' cs1 st' h hok.2 hs' fun R'' st'' hle' hs'' => hk R'' st'' (hle.trans hle') hs''
    · cases h
theorem ops_T (hc : CallOk P call) {K' : St → Prop} : ∀ (m : Nat) (l : List VIns) (R : Nat → Nat → Prop) (cs : CS) (st : St), evOpsN true call fl m l cs = .nx cs' → l.all okIns = true → SRel K fl R cs st →
    (∀ R' st', Le R R' → SRel K fl R' cs' st' → K' st') → TChain P K' l st
  | 0, _, _, _, _, h, _, _, _ => by cases h
  | m + 1, [], R, cs, st, h, _, hs, hk => by
    have h' : Out.nx cs = .nx cs' := h
    simp only [Out.nx.injEq] at h'
    subst h'
    exact hk R st (Le.refl R) hs
  | m + 1, i :: l, R, cs, st, h, hok, hs, hk => by
    rw [evOpsN_cons] at h
    simp only [List.all_cons, Bool.and_eq_true] at hok
    split at h
    · rename_i cs1 h1
      refine ins_T hc hok.1 hs h1 fun R' st' hle hs' => ?_
      exact ops_T hc m l R' cs1 st' h hok.2 hs' fun R'' st'' hle' hs'' => hk R'' st'' (hle.trans hle') hs''
    · cases h
end
def Then (P : Program) (n : Nat) (K : Store) (fl : Nat) (R : Nat → Nat → Prop) (k : List It) (Q : St → Prop) : Out → Prop
  | .nx cs => ∀ R' st, Le R R' → SRel K fl R' cs st → Runs P n k st Q
  | .ex id cs => ∃ k', popTo id k = some k' ∧ ∀ R' st, Le R R' → SRel K fl R' cs st → Runs P n k' st Q
  | .rt cs => ∀ R' st, Le R R' → SRel K fl R' cs st → Q st
  | .bad => False
theorem Then.le {K : Store} {fl : Nat} {R R' : Nat → Nat → Prop} {k : List It} {Q : St → Prop} {o : Out} (h : Then P n K fl R k Q o) (hle : Le R R') : Then P n K fl R' k Q o := by
  cases o
  case bad => exact h
  case ex => obtain ⟨k', h1, h2⟩ := h; exact ⟨k', h1, fun R'' st h3 h4 => h2 R'' st (hle.trans h3) h4⟩
  all_goals exact fun R'' st h3 h4 => h R'' st (hle.trans h3) h4
def CodeOk (P : Program) (code : FuncId → Option VFn) : Prop := ∀ g vf, code g = some vf → callable P g = true ∧ okFn vf = true ∧ ∃ fn, P.funcs[g]? = some fn ∧ cfn P fn = some vf
def LOk (P : Program) (code : FuncId → Option VFn) (fuel : Nat) : Prop := ∀ (n : Nat) (K : Store) (fl : Nat) (R : Nat → Nat → Prop) (c : VCode) (cs : CS) (st : St) (k : List It) (Q : St → Prop),
  okCode c = true → SRel K fl R cs st → Then P n K fl R k Q (evL code fuel fl c cs) → Runs P n (.code c :: k) st Q
theorem ofL_get (i : Nat) : ∀ (l : List V) (k : Nat) (t : Tr V), getP (.tup []) i (Tr.ofL l k t) = if k ≤ i ∧ i < k + l.length then l.getD (i - k) (.tup []) else getP (.tup []) i t
  | [], k, t => by simp [Tr.ofL]; intro h1 h2; omega
  | v :: l, k, t => by
    rw [Tr.ofL, ofL_get i l (k + 1), getP_set]
    simp only [List.length_cons]
    by_cases h1 : i = k
    · subst h1
      rw [if_neg (by omega), if_pos rfl, if_pos (by omega)]
      simp
    · by_cases h2 : k + 1 ≤ i ∧ i < k + 1 + l.length
      · rw [if_pos h2, if_pos (by omega), show i - k = (i - (k + 1)) + 1 by omega]
        simp
      · rw [if_neg h2, if_neg h1, if_neg (by omega)]
theorem resOne_rel {K : Store} {fl : Nat} {R : Nat → Nat → Prop} {cs : CS} {st : St} (h : SRel K fl R cs st) {r : VR} (hok : okRes r = true) {v : V} (hv : resOne ⟨cs.sf, stF cs.σ⟩ r = some v) :
    ∃ v', resOne st r = some v' ∧ VRel R v v' := by
  cases r <;> simp only [resOne, reduceCtorEq, Option.some.injEq] at hv ⊢
  case tmp x => subst hv; exact ⟨_, rfl, ev_rel h.slot hok⟩
  case cell agg sz x => exact loadV_rel h.mem.live (ev_rel h.slot hok) hv
theorem resAll_rel {K : Store} {fl : Nat} {R : Nat → Nat → Prop} {cs : CS} {st : St} (h : SRel K fl R cs st) : ∀ {l : List VR}, l.all okRes = true → ∀ {vs : List V}, resAll ⟨cs.sf, stF cs.σ⟩ l = some vs →
    ∃ vs', resAll st l = some vs' ∧ VRelL R vs vs'
  | [], _, vs, hv => by simp only [resAll, Option.some.injEq] at hv; subst hv; exact ⟨[], rfl, by simp [VRelL]⟩
  | r :: l, hok, vs, hv => by
    simp only [List.all_cons, Bool.and_eq_true] at hok
    simp only [resAll] at hv
    split at hv
    · rename_i v h1
      split at hv
      · rename_i us h2
        simp only [Option.some.injEq] at hv; subst hv
        obtain ⟨v', g1, g2⟩ := resOne_rel h hok.1 h1
        obtain ⟨us', g3, g4⟩ := resAll_rel h hok.2 h2
        exact ⟨v' :: us', by simp [resAll, g1, g3], VRelL.cons_iff.2 ⟨v', us', rfl, g2, g4⟩⟩
      · cases hv
    · cases hv
theorem resV_rel {K : Store} {fl : Nat} {R : Nat → Nat → Prop} {cs : CS} {st : St} (h : SRel K fl R cs st) {l : List VR} (hok : l.all okRes = true) {v : V} (hv : resV ⟨cs.sf, stF cs.σ⟩ l = some v) :
    ∃ v', resV st l = some v' ∧ VRel R v v' := by
  unfold resV at hv
  cases hr : resAll ⟨cs.sf, stF cs.σ⟩ l with
  | none => simp [hr] at hv
  | some vs =>
    obtain ⟨vs', g1, g2⟩ := resAll_rel h hok hr
    rw [hr] at hv
    unfold resV
    rw [g1]
    match vs, hv, g2 with
    | [], hv, g2 =>
      rw [VRelL.nil_iff] at g2; subst g2
      simp only [Option.some.injEq] at hv; subst hv
      exact ⟨_, rfl, by simp [VRel, VRelL]⟩
    | [u], hv, g2 =>
      obtain ⟨x, xs, rfl, g3, g4⟩ := VRelL.cons_iff.1 g2
      rw [VRelL.nil_iff] at g4; subst g4
      simp only [Option.some.injEq] at hv; subst hv
      exact ⟨_, rfl, g3⟩
    | u1 :: u2 :: us, hv, g2 =>
      obtain ⟨x, xs, rfl, g3, g4⟩ := VRelL.cons_iff.1 g2
      obtain ⟨y, ys, rfl, g5, g6⟩ := VRelL.cons_iff.1 g4
      simp only [Option.some.injEq] at hv; subst hv
      exact ⟨_, rfl, by simp only [VRel]; exact ⟨_, rfl, g2⟩⟩
theorem call_ok {code : FuncId → Option VFn} (hcode : CodeOk P code) {fuel : Nat} (ih : LOk P code fuel) : CallOk P (evF (evL code fuel) code) := by
  intro g args σc nxt fl r hr K R σ args' hm hargs
  unfold evF at hr
  split at hr
  · cases hr
  · rename_i vf hvf
    rw [bcase] at hr
    split at hr
    · rename_i hlen
      obtain ⟨hcl, hok, fn, hf, hcf⟩ := hcode g vf hvf
      simp only [okFn, Bool.and_eq_true] at hok
      have hlen' := Nat.le_of_ble_eq_true hlen
      refine Contract.of_runs hf hcf hcl (by rw [hargs.length]; exact hlen') ?_
      have hs : SRel K fl R ⟨Tr.ofL args 0 .e, σc, nxt⟩ ⟨argSlots args', σ⟩ := by
        refine ⟨fun i => ?_, hm⟩
        show VRel R (getP (.tup []) i (Tr.ofL args 0 .e)) (args'.getD i (.tup []))
        rw [ofL_get, getP_e]
        by_cases hi : i < args.length
        · rw [if_pos ⟨Nat.zero_le _, by omega⟩, Nat.sub_zero]
          obtain ⟨u, h1, h2⟩ := hargs.get (List.getElem?_eq_getElem hi)
          simp only [List.getD_eq_getElem?_getD, h1, List.getElem?_eq_getElem hi, Option.getD_some]
          exact h2
        · rw [if_neg (by omega)]
          have : args'[i]? = none := List.getElem?_eq_none (by rw [hargs.length]; omega)
          simp only [List.getD_eq_getElem?_getD, this, Option.getD_none]
          simp [VRel, VRelL]
      have hfin : ∀ cs', resQ vf.res cs' = some r → ∀ R' st, Le R R' → SRel K fl R' cs' st → Ret vf.res st fun v σ' => ∃ R', Le R R' ∧ VRel R' r.v v ∧ MRel K fl R' (stF r.σ) r.nxt σ' := by
        intro cs' hq R' st hle hs'
        unfold resQ at hq
        split at hq
        · rename_i v hv
          simp only [Option.some.injEq] at hq
          subst hq
          obtain ⟨v', g1, g2⟩ := resV_rel hs' hok.2 hv
          exact ⟨v', v', st.σ, g1, SubStore.refl _, Wk.refl (SubStore.refl _) _, R', hle, g2, hs'.mem⟩
        · cases hq
      refine ih vf.n K fl R vf.code _ _ [] _ hok.1 hs ?_
      generalize evL code fuel fl vf.code ⟨Tr.ofL args 0 .e, σc, nxt⟩ = o at hr
      cases o <;> simp only [outQ, reduceCtorEq] at hr
      · exact fun R' st hle hs' => Runs.nil (hfin _ hr R' st hle hs')
      · exact fun R' st hle hs' => hfin _ hr R' st hle hs'
    · cases hr
theorem evL_succ (code : FuncId → Option VFn) (f fl : Nat) (c : VCode) (cs : CS) : evL code (f + 1) fl c cs = match c with
      | .skip => .nx cs
      | .reg draw l => evOps draw (evF (evL code f) code) fl l cs
      | .seq a b => onNx (evL code f fl a cs) fun cs' => evL code f fl b cs'
      | .cond c a b => onB (c.ev cs.sf) (evL code f fl a cs) (evL code f fl b cs)
      | .block id a => onEx id (evL code f fl a cs)
      | .loop a => onNx (evL code f fl a cs) fun cs' => evL code f fl (.loop a) cs'
      | .exit id => .ex id cs
      | .ret => .rt cs
      | .rangeF .. => .bad
      | .regA .. => .bad
      | .regL .. => .bad
      | .bad => .bad := rfl
theorem evOps_nx {draw : Bool} {call : CallT} {fl : Nat} : ∀ (m : Nat) (l : List VIns) (cs : CS), (∃ cs', evOpsN draw call fl m l cs = .nx cs') ∨ evOpsN draw call fl m l cs = .bad
  | 0, _, _ => .inr rfl
  | m + 1, [], cs => .inl ⟨cs, rfl⟩
  | m + 1, i :: l, cs => by
    rw [evOpsN_cons]
    split
    · exact evOps_nx m l _
    · exact .inr rfl
theorem evL_ok {code : FuncId → Option VFn} (hcode : CodeOk P code) : ∀ fuel, LOk P code fuel := by
  intro fuel
  induction fuel using Nat.strongRecOn with
  | _ fuel ih =>
    intro n K fl R c cs st k Q hok hs hthen
    cases fuel with
    | zero => exact hthen.elim
    | succ f =>
      have ihf := ih f (by omega)
      rw [evL_succ] at hthen
      cases c with
      | skip => exact Runs.skip (hthen R st (Le.refl R) hs)
      | reg draw l =>
        simp only [okCode] at hok
        simp only [evOps] at hthen
        rcases evOps_nx (draw := draw) (call := evF (evL code f) code) (fl := fl) 1000 l cs with ⟨cs', he⟩ | he
        · rw [he] at hthen
          cases draw
          · exact Runs.region (ops_run (call_ok hcode ihf) 1000 l R cs st he hok hs hthen)
          · exact Runs.dregion (ops_T (call_ok hcode ihf) 1000 l R cs st he hok hs hthen)
        · rw [he] at hthen; exact hthen.elim
      | seq a b =>
        simp only [okCode, Bool.and_eq_true] at hok
        refine Runs.seq (ihf n K fl R a cs st _ Q hok.1 hs ?_)
        simp only [onNx] at hthen
        generalize evL code f fl a cs = o at hthen
        cases o with
        | nx cs1 => exact fun R1 st1 hle1 hs1 => ihf n K fl R1 b cs1 st1 k Q hok.2 hs1 (hthen.le hle1)
        | ex id cs1 => exact hthen
        | rt cs1 => exact hthen
        | bad => exact hthen
      | cond c a b =>
        simp only [okCode, Bool.and_eq_true] at hok
        have hv := ev_rel hs.slot hok.1
        have hthen : Then P n K fl R k Q (onB (c.ev cs.sf) (evL code f fl a cs) (evL code f fl b cs)) := hthen
        unfold onB at hthen
        split at hthen
        · rename_i t ht
          rw [ht, VRel.bool_iff] at hv
          refine Runs.cond hv (fun e => ?_) (fun e => ?_)
          · subst e; exact ihf n K fl R a cs st k Q hok.2.1 hs hthen
          · subst e; exact ihf n K fl R b cs st k Q hok.2.2 hs hthen
        · exact hthen.elim
      | block id a =>
        simp only [okCode] at hok
        refine Runs.block (ihf n K fl R a cs st _ Q hok hs ?_)
        simp only [onEx] at hthen
        generalize evL code f fl a cs = o at hthen
        cases o with
        | nx cs1 => exact fun R1 st1 hle1 hs1 => Runs.inBlock (hthen R1 st1 hle1 hs1)
        | ex j cs1 =>
          simp only [brec] at hthen
          by_cases hj : j = id
          · subst hj
            rw [if_pos (by rw [Nat.beq_eq])] at hthen
            exact ⟨k, by simp [popTo], hthen⟩
          · rw [if_neg (by rw [Nat.beq_eq]; exact hj)] at hthen
            obtain ⟨k', h1, h2⟩ := hthen
            exact ⟨k', by simp [popTo, hj, h1], h2⟩
        | rt cs1 => exact hthen
        | bad => exact hthen
      | loop a =>
        have hok' := hok
        simp only [okCode] at hok
        have hthen0 : Then P n K fl R k Q (evL code (f + 1) fl (.loop a) cs) := hthen
        generalize ho : evL code (f + 1) fl (.loop a) cs = o at hthen0
        refine Runs.loop (fun m st => m ≤ f + 1 ∧ ∃ R1 cs1, Le R R1 ∧ SRel K fl R1 cs1 st ∧ evL code m fl (.loop a) cs1 = o) (f + 1) ⟨Nat.le_refl _, R, cs, Le.refl R, hs, ho⟩ ?_
        rintro m st1 ⟨hm, R1, cs1, hle1, hs1, ho1⟩
        cases m with
        | zero =>
          have : o = .bad := ho1.symm
          rw [this] at hthen0; exact hthen0.elim
        | succ m =>
          have ihm := ih m (by omega)
          rw [evL_succ] at ho1
          refine ihm n K fl R1 a cs1 st1 _ Q hok hs1 ?_
          simp only [onNx] at ho1
          generalize evL code m fl a cs1 = o1 at ho1
          cases o1 with
          | nx cs2 => exact fun R2 st2 hle2 hs2 => Runs.stop ⟨m, by omega, by omega, R2, cs2, hle1.trans hle2, hs2, ho1⟩
          | ex id cs2 =>
            have ho1 : Out.ex id cs2 = o := ho1
            rw [← ho1] at hthen0
            obtain ⟨k', h1, h2⟩ := hthen0
            exact ⟨k', by simpa [popTo] using h1, fun R2 st2 hle2 hs2 => h2 R2 st2 (hle1.trans hle2) hs2⟩
          | rt cs2 =>
            have ho1 : Out.rt cs2 = o := ho1
            rw [← ho1] at hthen0
            exact fun R2 st2 hle2 hs2 => hthen0 R2 st2 (hle1.trans hle2) hs2
          | bad =>
            have ho1 : Out.bad = o := ho1
            rw [← ho1] at hthen0; exact hthen0.elim
      | exit id =>
        obtain ⟨k', h1, h2⟩ := hthen
        exact Runs.exit h1 (h2 R st (Le.refl R) hs)
      | ret => exact Runs.ret (hthen R st (Le.refl R) hs)
      | rangeF g ps a b => exact hthen.elim
      | regA l deps => exact hthen.elim
      | regL l e => exact hthen.elim
      | bad => exact hthen.elim
end Go.Vc
namespace Go.Vc
open Go.Proofs
theorem CodeOk.nil : CodeOk Try.prog (fun f => getP none f (.e : Tr (Option VFn))) := fun g vf h => by simp only [getP_e] at h; cases h
theorem CodeOk.add {t : Tr (Option VFn)} (h : CodeOk Try.prog (fun f => getP none f t)) {g : Nat} {vf : VFn} {fn : Func} (h1 : okFn vf = true) (h2 : callable Try.prog g = true) (h3 : Try.prog.funcs[g]? = some fn) (h4 : cfn Try.prog fn = some vf) :
    CodeOk Try.prog (fun f => getP none f (setP none (some vf) g t)) := fun g' vf' h' => by
  simp only [getP_set] at h'
  split at h'
  · rename_i e
    subst e
    simp only [Option.some.injEq] at h'
    subst h'
    exact ⟨h2, h1, fn, h3, h4⟩
  · exact h g' vf' h'
theorem ok14 : okFn c14 = true := by kernel_rfl
theorem ok19 : okFn c19 = true := by kernel_rfl
theorem ok33 : okFn c33 = true := by kernel_rfl
theorem ok56 : okFn c56 = true := by kernel_rfl
theorem ok57 : okFn c57 = true := by kernel_rfl
theorem ok68 : okFn c68 = true := by kernel_rfl
theorem ok69 : okFn c69 = true := by kernel_rfl
theorem ok70 : okFn c70 = true := by kernel_rfl
theorem ok71 : okFn c71 = true := by kernel_rfl
theorem ok72 : okFn c72 = true := by kernel_rfl
theorem ok76 : okFn c76 = true := by kernel_rfl
theorem ok77 : okFn c77 = true := by kernel_rfl
theorem ok78 : okFn c78 = true := by kernel_rfl
theorem ok79 : okFn c79 = true := by kernel_rfl
theorem ok83 : okFn c83 = true := by kernel_rfl
theorem ok84 : okFn c84 = true := by kernel_rfl
theorem ok85 : okFn c85 = true := by kernel_rfl
theorem ok86 : okFn c86 = true := by kernel_rfl
theorem ok87 : okFn c87 = true := by kernel_rfl
theorem ok88 : okFn c88 = true := by kernel_rfl
def tabA : Tr (Option VFn) :=
  setP none (some c14) 14 (
  setP none (some c19) 19 (
  setP none (some c33) 33 (
  setP none (some c56) 56 (
  setP none (some c57) 57 (
  setP none (some c68) 68 (
  setP none (some c69) 69 (
  setP none (some c70) 70 (
  setP none (some c71) 71 (
  setP none (some c72) 72 (
  setP none (some c76) 76 (
  setP none (some c77) 77 (
  setP none (some c78) 78 (
  setP none (some c79) 79 (
  setP none (some c83) 83 (
  setP none (some c84) 84 (
  setP none (some c85) 85 (
  setP none (some c86) 86 (
  setP none (some c87) 87 (
  setP none (some c88) 88 (
  .e))))))))))))))))))))
theorem tabA_ok : CodeOk Try.prog (fun f => getP none f tabA) :=
  CodeOk.add (CodeOk.add (CodeOk.add (CodeOk.add (CodeOk.add (CodeOk.add (CodeOk.add (CodeOk.add (CodeOk.add (CodeOk.add (CodeOk.add (CodeOk.add (CodeOk.add (CodeOk.add (CodeOk.add (CodeOk.add (CodeOk.add (CodeOk.add (CodeOk.add (CodeOk.add (CodeOk.nil) ok88 k88 Try.func88 e88) ok87 k87 Try.func87 e87) ok86 k86 Try.func86 e86) ok85 k85 Try.func85 e85) ok84 k84 Try.func84 e84) ok83 k83 Try.func83 e83) ok79 k79 Try.func79 e79) ok78 k78 Try.func78 e78) ok77 k77 Try.func77 e77) ok76 k76 Try.func76 e76) ok72 k72 Try.func72 e72) ok71 k71 Try.func71 e71) ok70 k70 Try.func70 e70) ok69 k69 Try.func69 e69) ok68 k68 Try.func68 e68) ok57 k57 Try.func57 e57) ok56 k56 Try.func56 e56) ok33 k33 Try.func33 e33) ok19 k19 Try.func19 e19) ok14 k14 Try.func14 e14
end Go.Vc
namespace Go.Vc
open Go.Proofs
def Orc.add {P : Program} (O : Orc P) (dec : ∀ a b : List V, Decidable (a = b)) (f0 : FuncId) (args0 : List V) (v0 : V) (h : PFun P f0 args0 v0) : Orc P where
  get f args σ := if f = f0 then (match dec args args0 with
    | .isTrue _ => some v0
    | .isFalse _ => O.get f args σ) else O.get f args σ
  up f args σ σ' v hs hv := by
    by_cases hf : f = f0
    · simp only [if_pos hf] at hv ⊢
      split at hv
      · exact hv
      · exact O.up _ _ _ _ _ hs hv
    · simp only [if_neg hf] at hv ⊢
      exact O.up _ _ _ _ _ hs hv
  ok f args σ v hv := by
    split at hv
    · rename_i hf
      split at hv
      · rename_i ha _
        simp only [Option.some.injEq] at hv
        subst hf ha hv
        exact h σ
      · exact O.ok _ _ _ _ hv
    · exact O.ok _ _ _ _ hv
end Go.Vc
