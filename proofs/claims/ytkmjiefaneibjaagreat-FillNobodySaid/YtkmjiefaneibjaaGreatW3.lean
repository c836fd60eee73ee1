/- Part 3 of the library of this proof. -/
import Derived.Test.YtkmjiefaneibjaaGreatW2
import Derived.Laws.RangeString
import Derived.Laws.Runes
set_option linter.all false
namespace Go.Vc
def Lv (R : Nat → Nat → Prop) (σc σ : Store) : Prop := ∀ c a o, R c a → σc c = some o → ∃ rows', σ a = some ⟨o.elem, o.sz, rows'⟩ ∧ VRelL R o.rows rows'
theorem Lv.sup {R : Nat → Nat → Prop} {σc σ σ1 : Store} (h : Lv R σc σ) (hs : SubStore σ σ1) : Lv R σc σ1 := fun c a o hc ho => by
  obtain ⟨rows', h1, h2⟩ := h c a o hc ho
  exact ⟨rows', hs _ _ h1, h2⟩
structure MRel (K : Store) (fl : Nat) (R : Nat → Nat → Prop) (σc : Store) (nxt : Nat) (σ : Store) : Prop where
  dom : ∀ c a, R c a → c < nxt
  live : Lv R σc σ
  inj : ∀ c c' a o o', R c a → R c' a → σc c = some o → σc c' = some o' → c = c'
  fn : ∀ c a a', R c a → R c a' → a = a'
  keep : SubStore K σ
  kfl : ∀ a o c oc, K a = some o → R c a → σc c = some oc → c < fl
section
variable {R : Nat → Nat → Prop} {K σc σ : Store} {fl nxt : Nat}
theorem MRel.write (h : MRel K fl R σc nxt σ) {c a : Nat} {o : Ob} (hc : R c a) (ho : σc c = some o) (hf : fl ≤ c) {rows rows' : List V} (hr : VRelL R rows rows') :
    MRel K fl R (upd σc c ⟨o.elem, o.sz, rows⟩) nxt (upd σ a ⟨o.elem, o.sz, rows'⟩) := by
  have hlive : ∀ i x, upd σc c ⟨o.elem, o.sz, rows⟩ i = some x → ∃ y, σc i = some y := fun i x hx => by
    by_cases e : i = c
    · rw [e]; exact ⟨o, ho⟩
    · rw [upd_ne e] at hx; exact ⟨x, hx⟩
  refine ⟨h.dom, ?_, ?_, ?_, ?_, ?_⟩
  · intro c1 a1 o1 h1 h2
    by_cases e : c1 = c
    · subst e
      have : a1 = a := h.fn c1 a1 a h1 hc
      subst this
      rw [upd_same] at h2
      simp only [Option.some.injEq] at h2
      subst h2
      exact ⟨rows', upd_same, hr⟩
    · rw [upd_ne e] at h2
      have hne : a1 ≠ a := fun e' => by subst e'; exact e (h.inj c1 c a1 o1 o h1 hc h2 ho)
      rw [upd_ne hne]
      exact h.live c1 a1 o1 h1 h2
  · intro c1 c2 a1 o1 o2 h1 h2 h3 h4
    obtain ⟨y, hy⟩ := hlive _ _ h3
    obtain ⟨z, hz⟩ := hlive _ _ h4
    exact h.inj c1 c2 a1 y z h1 h2 hy hz
  · exact h.fn
  · intro i x hx
    have hne : i ≠ a := fun e => by subst e; have := h.kfl i x c o hx hc ho; omega
    rw [upd_ne hne]
    exact h.keep i x hx
  · intro a1 o1 c1 oc h1 h2 h3
    obtain ⟨y, hy⟩ := hlive _ _ h3
    exact h.kfl a1 o1 c1 y h1 h2 hy
theorem MRel.rem (h : MRel K fl R σc nxt σ) {c a : Nat} {o : Ob} (hc : R c a) (ho : σc c = some o) (hf : fl ≤ c) :
    MRel K fl R (del σc c) nxt (del σ a) := by
  have hlive : ∀ i x, del σc c i = some x → i ≠ c ∧ σc i = some x := fun i x hx => by
    by_cases e : i = c
    · subst e; simp [Vc.del] at hx
    · rw [del_ne e] at hx; exact ⟨e, hx⟩
  refine ⟨h.dom, ?_, ?_, ?_, ?_, ?_⟩
  · intro c1 a1 o1 h1 h2
    obtain ⟨e, h2⟩ := hlive _ _ h2
    have hne : a1 ≠ a := fun e' => by subst e'; exact e (h.inj c1 c a1 o1 o h1 hc h2 ho)
    rw [del_ne hne]
    exact h.live c1 a1 o1 h1 h2
  · intro c1 c2 a1 o1 o2 h1 h2 h3 h4
    exact h.inj c1 c2 a1 o1 o2 h1 h2 (hlive _ _ h3).2 (hlive _ _ h4).2
  · exact h.fn
  · intro i x hx
    have hne : i ≠ a := fun e => by subst e; have := h.kfl i x c o hx hc ho; omega
    rw [del_ne hne]
    exact h.keep i x hx
  · intro a1 o1 c1 oc h1 h2 h3
    exact h.kfl a1 o1 c1 oc h1 h2 (hlive _ _ h3).2
def ext (R : Nat → Nat → Prop) (c a : Nat) : Nat → Nat → Prop := fun x y => R x y ∨ (x = c ∧ y = a)
theorem ext_le (c a : Nat) : ∀ x y, R x y → ext R c a x y := fun _ _ h => .inl h
theorem MRel.new (h : MRel K fl R σc nxt σ) {i : Nat} (hi : σ i = none) {ob : Ob} {rows' : List V} (hr : VRelL R ob.rows rows') :
    MRel K fl (ext R nxt i) (upd σc nxt ob) (nxt + 1) (upd σ i ⟨ob.elem, ob.sz, rows'⟩) := by
  have hlt : ∀ c a, R c a → c ≠ nxt := fun c a hc => by have := h.dom c a hc; omega
  have hold : ∀ c a o, R c a → upd σc nxt ob c = some o → σc c = some o ∧ a ≠ i := fun c a o hc ho => by
    rw [upd_ne (hlt c a hc)] at ho
    refine ⟨ho, fun e => ?_⟩
    subst e
    obtain ⟨r, hr, _⟩ := h.live c a o hc ho
    rw [hi] at hr; cases hr
  refine ⟨?_, ?_, ?_, ?_, h.keep.upd hi, ?_⟩
  · rintro c a (hc | ⟨rfl, rfl⟩)
    · have := h.dom c a hc; omega
    · omega
  · rintro c a o (hc | ⟨rfl, rfl⟩) ho
    · obtain ⟨h1, h2⟩ := hold c a o hc ho
      obtain ⟨r, h3, h4⟩ := h.live c a o hc h1
      rw [upd_ne h2]
      exact ⟨r, h3, VRelL.mono (ext_le nxt i) _ _ h4⟩
    · rw [upd_same] at ho
      simp only [Option.some.injEq] at ho
      subst ho
      exact ⟨rows', upd_same, VRelL.mono (ext_le _ _) _ _ hr⟩
  · rintro c c' a o o' (hc | ⟨rfl, rfl⟩) (hc' | ⟨rfl, e⟩) ho ho'
    · exact h.inj c c' a o o' hc hc' (hold _ _ _ hc ho).1 (hold _ _ _ hc' ho').1
    · exact absurd e (hold _ _ _ hc ho).2
    · exact absurd rfl (hold _ _ _ hc' ho').2
    · rfl
  · rintro c a a' (hc | ⟨rfl, rfl⟩) (hc' | ⟨e, rfl⟩)
    · exact h.fn c a a' hc hc'
    · exact absurd e (hlt _ _ hc)
    · exact absurd rfl (hlt _ _ hc')
    · rfl
  · rintro a o c oc hk (hc | ⟨rfl, rfl⟩) ho
    · exact h.kfl a o c oc hk hc (hold _ _ _ hc ho).1
    · have := h.keep a o hk
      rw [hi] at this; cases this
def okX : VX → Bool
  | .t _ => true
  | .c v => v.noid
def okOp (op : VOp) : Bool := op.xs.all okX && (match op with
  | .alloc _ _ z => z.noid
  | .build zero _ => noidL zero
  | .clear _ z _ => z.noid
  | .mk _ _ _ z _ => z.noid
  | .more (.tas _ _ z) _ => z.noid
  | _ => true)
def okIns (i : VIns) : Bool := okOp i.op && (match i.g with
  | some (x, _) => okX x
  | none => true)
def okRes : VR → Bool
  | .tmp x => okX x
  | .cell _ _ x => okX x
  | .bad => true
variable {s s' : Nat → V}
theorem ev_rel (hs : ∀ i, VRel R (s i) (s' i)) {x : VX} (hx : okX x = true) : VRel R (x.ev s) (x.ev s') := by
  cases x with
  | t n => exact hs n
  | c v => exact noid_refl v hx
theorem evs_rel (hs : ∀ i, VRel R (s i) (s' i)) : ∀ {xs : List VX}, xs.all okX = true → VRelL R (xs.map (·.ev s)) (xs.map (·.ev s'))
  | [], _ => by simp [VRelL]
  | x :: xs, h => by
    simp only [List.all_cons, Bool.and_eq_true] at h
    exact VRelL.cons_iff.2 ⟨_, _, rfl, ev_rel hs h.1, evs_rel hs h.2⟩
theorem intBin_noid {op : BinOp} {k : IntKind} {a b : Int} {v : V} (h : intBin op k a b = some v) : v.noid = true := by
  unfold intBin at h
  split at h <;> first
    | (simp only [Option.some.injEq] at h; subst h; rfl)
    | (split at h <;> first | (simp only [Option.some.injEq] at h; subst h; rfl) | cases h)
    | cases h
theorem strBin_noid {op : BinOp} {a b : List UInt8} {v : V} (h : strBin op a b = some v) : v.noid = true := by
  unfold strBin at h
  split at h <;> first
    | (simp only [Option.some.injEq] at h; subst h; rfl)
    | cases h
theorem binV_rel {op : BinOp} {a b a' b' v : V} (ha : VRel R a a') (hb : VRel R b b') (h : binV op a b = some v) : a' = a ∧ b' = b ∧ v.noid = true := by
  unfold binV at h
  split at h
  · simp only [VRel] at ha hb
    split at h
    · exact ⟨ha, hb, intBin_noid h⟩
    · cases h
  · simp only [VRel] at ha hb
    exact ⟨ha, hb, strBin_noid h⟩
  · cases h
theorem lenV_rel {b : Bool} {x x' v : V} (hx : VRel R x x') (h : lenV b x = some v) : ∃ v', lenV b x' = some v' ∧ VRel R v v' := by
  unfold lenV at h
  split at h <;> simp only [Option.some.injEq, reduceCtorEq] at h <;> simp only [VRel] at hx <;> subst h
  · obtain ⟨i, rfl, _⟩ := hx; exact ⟨_, rfl, by simp [VRel]⟩
  · obtain ⟨i, rfl, hr⟩ := hx; exact ⟨_, rfl, by simp [VRel, hr.length]⟩
  · subst hx; exact ⟨_, rfl, by simp [VRel]⟩
  · subst hx; exact ⟨_, rfl, by simp [VRel]⟩
theorem subCells_rel {agg : Bool} {off sz : Nat} {vs us : List V} {v : V} (h : VRelL R vs us) (hv : subCells agg off sz vs = some v) : ∃ v', subCells agg off sz us = some v' ∧ VRel R v v' := by
  unfold subCells at hv ⊢
  cases agg
  · simpa using h.get hv
  · simp only [if_true, Option.some.injEq] at hv ⊢
    subst hv
    exact ⟨_, rfl, VRel.agg ((h.drop off).take sz)⟩
theorem fldV_rel {agg : Bool} {off sz : Nat} {x x' v : V} (hx : VRel R x x') (h : fldV agg off sz x = some v) : ∃ v', fldV agg off sz x' = some v' ∧ VRel R v v' := by
  unfold fldV at h
  split at h
  · obtain ⟨c, rfl, hr⟩ := VRel.agg_iff.1 hx
    exact subCells_rel hr h
  · cases h
theorem fldAV_rel {agg : Bool} {off sz : Nat} {x x' v : V} (hx : VRel R x x') (h : fldAV agg off sz x = some v) : ∃ v', fldAV agg off sz x' = some v' ∧ VRel R v v' := by
  unfold fldAV at h
  split at h
  · simp only [VRel] at hx
    obtain ⟨i, rfl, hr⟩ := hx
    simp only [Option.some.injEq] at h; subst h
    exact ⟨_, rfl, by simp only [VRel]; exact ⟨i, rfl, hr⟩⟩
  · simp only [VRel] at hx
    obtain ⟨u, rfl, hr⟩ := hx
    simp only [Option.map_eq_some_iff] at h
    obtain ⟨w, hw, rfl⟩ := h
    obtain ⟨w', h1, h2⟩ := subCells_rel hr.cells hw
    exact ⟨.rp w', by simp [fldAV, h1], VRel.rp h2⟩
  · cases h
theorem idxAV_rel (hm : Lv R σc σ) {esz : Nat} {x i x' i' v : V} (hx : VRel R x x') (hi : VRel R i i') (h : idxAV σc esz x i = some v) : ∃ v', idxAV σ esz x' i' = some v' ∧ VRel R v v' := by
  unfold idxAV at h
  split at h
  · simp only [VRel] at hx hi
    obtain ⟨a, rfl, ha⟩ := hx
    subst hi
    split at h
    · rename_i ob hob
      obtain ⟨rows', h1, h2⟩ := hm _ _ _ ha hob
      split at h
      · rename_i hc
        simp only [Option.some.injEq] at h; subst h
        refine ⟨_, ?_, by simp only [VRel]; exact ⟨a, rfl, ha⟩⟩
        simp only [idxAV, h1]
        rw [if_pos hc]
      · cases h
    · cases h
  · simp only [VRel] at hx hi
    obtain ⟨rows', rfl, hr⟩ := hx
    subst hi
    split at h
    · rename_i hc
      split at h
      · rename_i r hrr
        simp only [Option.some.injEq] at h; subst h
        obtain ⟨u, h1, h2⟩ := hr.get hrr
        refine ⟨.rp u, ?_, VRel.rp h2⟩
        simp only [idxAV, h1]
        rw [if_pos hc]
      · cases h
    · cases h
  · cases h
theorem idxAAV_rel {agg : Bool} {n esz : Nat} {x i x' i' v : V} (hx : VRel R x x') (hi : VRel R i i') (h : idxAAV agg n esz x i = some v) : ∃ v', idxAAV agg n esz x' i' = some v' ∧ VRel R v v' := by
  unfold idxAAV at h
  split at h
  · simp only [VRel] at hx hi
    obtain ⟨a, rfl, ha⟩ := hx
    subst hi
    split at h
    · rename_i hc
      simp only [Option.some.injEq] at h; subst h
      exact ⟨_, by simp only [idxAAV]; rw [if_pos hc], by simp only [VRel]; exact ⟨a, rfl, ha⟩⟩
    · cases h
  · simp only [VRel] at hx hi
    obtain ⟨u, rfl, hr⟩ := hx
    subst hi
    split at h
    · rename_i hc
      simp only [Option.map_eq_some_iff] at h
      obtain ⟨w, hw, rfl⟩ := h
      obtain ⟨w', h1, h2⟩ := subCells_rel hr.cells hw
      exact ⟨.rp w', by simp only [idxAAV]; rw [if_pos hc, h1]; rfl, VRel.rp h2⟩
    · cases h
  · cases h
theorem idxVV_rel {agg : Bool} {n esz : Nat} {x i x' i' v : V} (hx : VRel R x x') (hi : VRel R i i') (h : idxVV agg n esz x i = some v) : ∃ v', idxVV agg n esz x' i' = some v' ∧ VRel R v v' := by
  unfold idxVV at h
  split at h
  · obtain ⟨c, rfl, hr⟩ := VRel.agg_iff.1 hx
    rw [VRel.int_iff] at hi
    subst hi
    split at h
    · rename_i hc
      obtain ⟨w', h1, h2⟩ := subCells_rel hr h
      exact ⟨w', by simp only [idxVV]; rw [if_pos hc, h1], h2⟩
    · cases h
  · cases h
theorem idxSV_rel {x i x' i' v : V} (hx : VRel R x x') (hi : VRel R i i') (h : idxSV x i = some v) : ∃ v', idxSV x' i' = some v' ∧ VRel R v v' := by
  have h0 := h
  unfold idxSV at h
  split at h
  · rw [VRel.str_iff] at hx
    rw [VRel.int_iff] at hi
    subst hx hi
    refine ⟨v, h0, ?_⟩
    split at h
    · split at h
      · simp only [Option.some.injEq] at h; subst h; simp [VRel]
      · cases h
    · cases h
  · cases h
theorem loadV_rel (hm : Lv R σc σ) {agg : Bool} {sz : Nat} {x x' v : V} (hx : VRel R x x') (h : loadV σc agg sz x = some v) : ∃ v', loadV σ agg sz x' = some v' ∧ VRel R v v' := by
  unfold loadV at h
  split at h
  · simp only [VRel] at hx
    obtain ⟨a, rfl, ha⟩ := hx
    split at h
    · rename_i ob hob
      obtain ⟨rows', h1, h2⟩ := hm _ _ _ ha hob
      split at h
      · rename_i r hr
        obtain ⟨r', h3, h4⟩ := h2.get hr
        have hl := h4.cells.length
        simp only [loadV, h1, h3, hl]
        cases agg
        · simp only [Bool.false_eq_true, if_false] at h ⊢
          exact h4.cells.get h
        · simp only [if_true] at h ⊢
          split at h
          · rename_i hc
            simp only [Option.some.injEq] at h; subst h
            exact ⟨_, by rw [if_pos hc], VRel.agg h4.cells⟩
          · split at h
            · rename_i hc hc'
              rw [if_neg hc, if_pos hc']
              simp only [Option.some.injEq] at h; subst h
              exact ⟨_, rfl, VRel.agg ((h4.cells.drop _).take _)⟩
            · cases h
      · cases h
    · cases h
  · simp only [VRel] at hx
    obtain ⟨u, rfl, hr⟩ := hx
    rename_i w
    have hl := hr.cells.length
    cases agg
    · simp only [Bool.false_eq_true, if_false] at h
      split at h
      · cases h
      · simp only [Option.some.injEq] at h; subst h
        rename_i hna
        refine ⟨u, ?_, hr⟩
        cases u <;> simp only [loadV, Bool.false_eq_true, if_false]
        cases w <;> simp only [VRel] at hr <;> simp at hr hna
    · simp only [if_true] at h
      split at h
      · rename_i hc
        simp only [Option.some.injEq] at h; subst h
        refine ⟨_, ?_, VRel.agg hr.cells⟩
        simp only [loadV, hl, if_true]
        rw [if_pos hc]
      · cases h
  · cases h
theorem boundV_rel {d : Int} : ∀ {o o' : Option V}, (match o, o' with | none, none => True | some x, some x' => VRel R x x' | _, _ => False) → ∀ {j : Int}, boundV d o = some j → boundV d o' = some j
  | none, none, _, j, h => h
  | some x, some x', hx, j, h => by
    simp only at hx
    cases x <;> simp only [boundV] at h <;> first | cases h | skip
    rw [VRel.int_iff] at hx
    subst hx
    rfl
  | none, some _, hx, _, _ => hx.elim
  | some _, none, hx, _, _ => hx.elim
theorem sliceV_rel (hm : Lv R σc σ) {esz : Nat} {x x' v : V} {lo hi mx lo' hi' mx' : Option V} (hx : VRel R x x')
    (h1 : ∀ d j, boundV d lo = some j → boundV d lo' = some j) (h2 : ∀ d j, boundV d hi = some j → boundV d hi' = some j) (h3 : ∀ d j, boundV d mx = some j → boundV d mx' = some j)
    (h : sliceV σc esz x lo hi mx = some v) : ∃ v', sliceV σ esz x' lo' hi' mx' = some v' ∧ VRel R v v' := by
  unfold sliceV at h
  split at h
  · simp only [VRel] at hx
    obtain ⟨a, rfl, ha⟩ := hx
    split at h
    · rename_i l hh m e1 e2 e3
      split at h
      · rename_i hc
        simp only [Option.some.injEq] at h; subst h
        have hsz : szIs σ a esz = true := by
          have hz := hc.2.2.2.2
          unfold szIs at hz ⊢
          split at hz
          · rename_i ob hob
            obtain ⟨rows', g1, g2⟩ := hm _ _ _ ha hob
            rw [g1]; exact hz
          · cases hz
        refine ⟨_, ?_, by simp only [VRel]; exact ⟨a, rfl, ha⟩⟩
        simp only [sliceV, h1 _ _ e1, h2 _ _ e2, h3 _ _ e3]
        rw [if_pos ⟨hc.1, hc.2.1, hc.2.2.1, hc.2.2.2.1, hsz⟩]
      · cases h
    · cases h
  · simp only [VRel] at hx
    obtain ⟨rows', rfl, hr⟩ := hx
    have hl := hr.length
    split at h
    · rename_i l hh m e1 e2 e3
      split at h
      · rename_i hc
        simp only [Option.some.injEq] at h; subst h
        refine ⟨.sl _ ((rows'.drop l.toNat).take (hh.toNat - l.toNat)), ?_, by simp only [VRel]; exact ⟨_, rfl, (hr.drop _).take _⟩⟩
        simp only [sliceV, h1 _ _ e1, hl, h2 _ _ e2, h3 _ _ e3]
        rw [if_pos hc]
      · cases h
    · cases h
  · simp only [VRel] at hx
    subst hx
    split at h
    · rename_i l hh m e1 e2 e3
      split at h
      · rename_i hc
        simp only [Option.some.injEq] at h; subst h
        refine ⟨.nils, ?_, by simp [VRel]⟩
        simp only [sliceV, h1 _ _ e1, h2 _ _ e2, h3 _ _ e3]
        rw [if_pos hc]
      · cases h
    · cases h
  · cases h
theorem sliceSV_rel {x x' v : V} {lo hi lo' hi' : Option V} (hx : VRel R x x')
    (h1 : ∀ d j, boundV d lo = some j → boundV d lo' = some j) (h2 : ∀ d j, boundV d hi = some j → boundV d hi' = some j)
    (h : sliceSV x lo hi = some v) : ∃ v', sliceSV x' lo' hi' = some v' ∧ VRel R v v' := by
  unfold sliceSV at h
  split at h
  · rw [VRel.str_iff] at hx
    subst hx
    split at h
    · rename_i l hh e1 e2
      split at h
      · rename_i hc
        simp only [Option.some.injEq] at h; subst h
        refine ⟨_, ?_, VRel.str_iff.2 rfl⟩
        simp only [sliceSV, h1 _ _ e1, h2 _ _ e2]
        rw [if_pos hc]
      · cases h
    · cases h
  · cases h
theorem nilCheckV_rel {x x' v : V} (hx : VRel R x x') (h : nilCheckV x = some v) : ∃ v', nilCheckV x' = some v' ∧ VRel R v v' := by
  unfold nilCheckV at h
  split at h <;> first | cases h | skip
  all_goals (have hx0 := hx; simp only [VRel] at hx; obtain ⟨i, rfl, _⟩ := hx; exact ⟨_, rfl, hx0⟩)
theorem binBV_rel {neg : Bool} {x y x' y' v : V} (hx : VRel R x x') (hy : VRel R y y') (h : binBV neg x y = some v) : ∃ v', binBV neg x' y' = some v' ∧ VRel R v v' := by
  have h0 := h
  unfold binBV at h
  split at h
  · rw [VRel.bool_iff] at hx hy
    subst hx hy
    refine ⟨v, h0, ?_⟩
    simp only [Option.some.injEq] at h; subst h; simp [VRel]
  · cases h
theorem minmaxV_rel {m : Bool} {x y x' y' v : V} (hx : VRel R x x') (hy : VRel R y y') (h : minmaxV m x y = some v) : ∃ v', minmaxV m x' y' = some v' ∧ VRel R v v' := by
  have h0 := h
  unfold minmaxV at h
  split at h
  · rw [VRel.int_iff] at hx hy
    subst hx hy
    refine ⟨v, h0, ?_⟩
    split at h
    · simp only [Option.some.injEq] at h; subst h; simp [VRel]
    · cases h
  · cases h
theorem eqCell_rel {x y x' y' : V} {b : Bool} (hx : VRel R x x') (hy : VRel R y y') (h : eqCell x y = some b) : x' = x ∧ y' = y := by
  unfold eqCell at h
  split at h <;> first | cases h | skip
  all_goals simp only [VRel] at hx hy
  all_goals exact ⟨hx, hy⟩
theorem eqCells_rel : ∀ {l m l' m' : List V} {b : Bool}, VRelL R l l' → VRelL R m m' → eqCells l m = some b → l' = l ∧ m' = m
  | [], [], _, _, _, h1, h2, _ => by rw [VRelL.nil_iff] at h1 h2; exact ⟨h1, h2⟩
  | v :: vs, u :: us, _, _, b, h1, h2, h => by
    obtain ⟨v', vs', rfl, g1, g2⟩ := VRelL.cons_iff.1 h1
    obtain ⟨u', us', rfl, g3, g4⟩ := VRelL.cons_iff.1 h2
    simp only [eqCells] at h
    split at h
    · rename_i e1 e2
      obtain ⟨rfl, rfl⟩ := eqCell_rel g1 g3 e1
      obtain ⟨rfl, rfl⟩ := eqCells_rel g2 g4 e2
      exact ⟨rfl, rfl⟩
    · cases h
  | [], _ :: _, _, _, _, _, _, h => by simp [eqCells] at h
  | _ :: _, [], _, _, _, _, _, h => by simp [eqCells] at h
theorem eqSV_rel {neg : Bool} {ks : List Nat} {x y x' y' v : V} (hx : VRel R x x') (hy : VRel R y y') (h : eqSV neg ks x y = some v) : ∃ v', eqSV neg ks x' y' = some v' ∧ VRel R v v' := by
  have h0 := h
  unfold eqSV at h
  split at h
  · obtain ⟨c, rfl, g1⟩ := VRel.agg_iff.1 hx
    obtain ⟨d, rfl, g2⟩ := VRel.agg_iff.1 hy
    split at h
    · split at h
      · rename_i e
        obtain ⟨rfl, rfl⟩ := eqCells_rel g1 g2 e
        refine ⟨v, h0, ?_⟩
        simp only [Option.some.injEq] at h; subst h; simp [VRel]
      · cases h
    · cases h
  · cases h
theorem bytesOf_rel : ∀ {l m : List V} {b : List UInt8}, VRelL R l m → bytesOf l = some b → m = l
  | [], _, _, h, _ => by rw [VRelL.nil_iff] at h; exact h
  | v :: vs, _, b, h, hb => by
    obtain ⟨u, us, rfl, g1, g2⟩ := VRelL.cons_iff.1 h
    simp only [bytesOf] at hb
    split at hb
    · rename_i e1 e2
      rw [bytesOf_rel g2 e2]
      cases v <;> simp [byteOf] at e1
      rw [VRel.int_iff] at g1
      rw [g1]
    · cases hb
theorem bytesV_rel (hm : Lv R σc σ) {x x' v : V} (hx : VRel R x x') (h : bytesV σc x = some v) : ∃ v', bytesV σ x' = some v' ∧ VRel R v v' := by
  unfold bytesV at h
  split at h
  · simp only [VRel] at hx; subst hx
    simp only [Option.some.injEq] at h; subst h
    exact ⟨_, rfl, by simp [VRel]⟩
  · simp only [VRel] at hx
    obtain ⟨a, rfl, ha⟩ := hx
    split at h
    · rename_i ob hob
      obtain ⟨rows', h1, h2⟩ := hm _ _ _ ha hob
      split at h
      · rename_i hc
        simp only [Option.map_eq_some_iff] at h
        obtain ⟨l, hl, rfl⟩ := h
        have e := bytesOf_rel ((h2.drop _).take _) hl
        refine ⟨_, ?_, VRel.str_iff.2 rfl⟩
        simp only [bytesV, h1, h2.length, e, hl, Option.map_some]
        rw [if_pos hc]
      · cases h
    · cases h
  · cases h
theorem extV_rel {i : Nat} {x x' v : V} (hx : VRel R x x') (h : extV i x = some v) : ∃ v', extV i x' = some v' ∧ VRel R v v' := by
  unfold extV at h
  split at h
  · simp only [VRel] at hx
    obtain ⟨c, rfl, hr⟩ := hx
    exact hr.get h
  · cases h
def PartsRel (R : Nat → Nat → Prop) : List (Nat × Nat × V) → List (Nat × Nat × V) → Prop
  | [], l => l = []
  | p :: ps, l => ∃ u us, l = (p.1, p.2.1, u) :: us ∧ VRel R p.2.2 u ∧ PartsRel R ps us
theorem buildV_rel : ∀ {ps ps' : List (Nat × Nat × V)} {z z' l : List V}, VRelL R z z' → PartsRel R ps ps' → buildV z ps = some l → ∃ l', buildV z' ps' = some l' ∧ VRelL R l l'
  | [], _, z, z', l, hz, hp, h => by
    simp only [PartsRel] at hp; subst hp
    simp only [buildV, Option.some.injEq] at h; subst h
    exact ⟨_, rfl, hz⟩
  | (off, sz, x) :: ps, _, z, z', l, hz, hp, h => by
    simp only [PartsRel] at hp
    obtain ⟨u, us, rfl, h1, h2⟩ := hp
    simp only [buildV] at h ⊢
    split at h
    · rename_i hc
      rw [if_pos ⟨by rw [h1.cells.length]; exact hc.1, by rw [h1.stays]; exact hc.2.1, by rw [hz.length]; exact hc.2.2⟩]
      refine buildV_rel ?_ h2 h
      unfold splice
      rw [h1.cells.length]
      exact ((hz.take _).append h1.cells).append (hz.drop _)
    · cases h
theorem bound_ev (hs : ∀ i, VRel R (s i) (s' i)) {lo : Option VX} (h : ∀ x ∈ lo.toList, okX x = true) (d j : Int) : boundV d (lo.map (·.ev s)) = some j → boundV d (lo.map (·.ev s')) = some j := by
  refine boundV_rel (R := R) ?_
  cases lo with
  | none => trivial
  | some x => exact ev_rel hs (h x (by simp))
theorem vpure_rel (hm : Lv R σc σ) (hs : ∀ i, VRel R (s i) (s' i)) {op : VOp} (hok : okOp op = true) {v : V} (hp : vpre s op) (h : vpure σc s op = some v) :
    vpre s' op ∧ ∃ v', vpure σ s' op = some v' ∧ VRel R v v' := by
  have hok' := hok
  simp only [okOp, Bool.and_eq_true] at hok
  have hx := List.all_eq_true.1 hok.1
  have E : ∀ x, x ∈ op.xs → VRel R (x.ev s) (x.ev s') := fun x h => ev_rel hs (hx x h)
  cases op <;> simp only [VOp.xs, List.mem_cons, List.not_mem_nil, or_false, forall_eq_or_imp, forall_eq, List.mem_append] at E <;> simp only [vpure, vpre, Option.some.injEq, reduceCtorEq, true_and] at h hp ⊢
  case mov => subst h; exact ⟨_, rfl, E⟩
  case pick c a b =>
    split at h
    · rename_i t ht
      have := E.1
      rw [ht, VRel.bool_iff] at this
      rw [this]
      simp only [Option.some.injEq] at h ⊢
      subst h
      refine ⟨_, rfl, ?_⟩
      cases t
      · exact E.2.2
      · exact E.2.1
    · cases h
  case bin op x y =>
    obtain ⟨e1, e2, e3⟩ := binV_rel E.1 E.2 h
    rw [e1, e2]
    exact ⟨hp, v, h, noid_refl v e3⟩
  case not x =>
    split at h
    · rename_i b hb
      rw [hb, VRel.bool_iff] at E
      rw [E]
      simp only [Option.some.injEq] at h ⊢; subst h
      exact ⟨_, rfl, by simp [VRel]⟩
    · cases h
  case neg x =>
    split at h
    · rename_i k b hb
      rw [hb] at hp
      rw [hb, VRel.int_iff] at E
      rw [E]
      simp only [Option.some.injEq] at h ⊢; subst h
      exact ⟨hp, _, rfl, by simp [VRel]⟩
    · cases h
  case len => exact lenV_rel E h
  case cap =>
    unfold capV at h
    split at h
    · rename_i hn
      rw [hn] at E
      simp only [VRel] at E
      rw [E]
      simp only [Option.some.injEq] at h
      subst h
      exact ⟨_, rfl, by simp [VRel]⟩
    · cases h
  case fld => exact fldV_rel E h
  case fldA => exact fldAV_rel E h
  case idxA => exact idxAV_rel hm E.1 E.2 h
  case idxAA => exact idxAAV_rel E.1 E.2 h
  case idxV => exact idxVV_rel E.1 E.2 h
  case idxS => exact idxSV_rel E.1 E.2 h
  case load => exact loadV_rel hm E h
  case slice esz x lo hi mx =>
    have hx' := hx
    simp only [VOp.xs, List.mem_cons, List.mem_append] at hx'
    exact sliceV_rel hm E.1 (bound_ev hs fun y hy => hx' y (.inr (.inl (.inl hy)))) (bound_ev hs fun y hy => hx' y (.inr (.inl (.inr hy)))) (bound_ev hs fun y hy => hx' y (.inr (.inr hy))) h
  case sliceS x lo hi =>
    have hx' := hx
    simp only [VOp.xs, List.mem_cons, List.mem_append] at hx'
    exact sliceSV_rel E.1 (bound_ev hs fun y hy => hx' y (.inr (.inl hy))) (bound_ev hs fun y hy => hx' y (.inr (.inr hy))) h
  case ext => exact extV_rel E h
  case more m xs =>
    by_cases hb : ∃ f, m = .mkB f
    · obtain ⟨f, rfl⟩ := hb
      simp only [vpure, Option.some.injEq] at h ⊢
      subst h
      exact ⟨_, rfl, by simp only [VRel]; exact ⟨_, rfl, evs_rel hs hok.1⟩⟩
    cases xs with
    | nil => cases m <;> first | exact absurd ⟨_, rfl⟩ hb | simp [vpure] at h
    | cons x xs =>
      have ex := E x (by simp)
      cases xs with
      | cons y ys => cases m <;> first | exact absurd ⟨_, rfl⟩ hb | simp [vpure] at h
      | nil =>
        cases m
        case mkB => exact absurd ⟨_, rfl⟩ hb
        case mkI t =>
          simp only [Option.some.injEq] at h ⊢
          subst h
          exact ⟨_, rfl, by simp only [VRel]; exact ⟨_, rfl, ex⟩⟩
        case tas t ok z =>
          have hz : z.noid = true := hok.2
          simp only [] at h ⊢
          unfold tasV at h ⊢
          split at h
          · rename_i t' v' hv'
            rw [hv'] at ex
            simp only [VRel] at ex
            obtain ⟨u, hu, hru⟩ := ex
            rw [hu]
            simp only
            split at h
            · rename_i e
              rw [if_pos e]
              simp only [Option.some.injEq] at h ⊢
              subst h
              refine ⟨_, rfl, ?_⟩
              cases ok
              · exact hru
              · simp only [if_true, VRel, VRelL]; exact ⟨_, rfl, _, _, rfl, hru, _, _, rfl, rfl, rfl⟩
            · rename_i e
              rw [if_neg e]
              cases ok
              · simp at h
              · simp only [if_true, Option.some.injEq] at h ⊢
                subst h
                refine ⟨_, rfl, ?_⟩
                simp only [VRel, VRelL]; exact ⟨_, rfl, _, _, rfl, noid_refl z hz, _, _, rfl, rfl, rfl⟩
          · rename_i hv'
            rw [hv'] at ex
            simp only [VRel] at ex
            rw [ex]
            cases ok
            · simp at h
            · simp only [if_true, Option.some.injEq] at h ⊢
              subst h
              refine ⟨_, rfl, ?_⟩
              simp only [VRel, VRelL]; exact ⟨_, rfl, _, _, rfl, noid_refl z hz, _, _, rfl, rfl, rfl⟩
          · cases h
        case nilP neg =>
          simp only [] at h ⊢
          unfold nilPV at h
          split at h
          · rename_i hv'
            rw [hv'] at ex
            simp only [VRel] at ex
            rw [ex]
            exact ⟨v, h, by simp only [Option.some.injEq] at h; subst h; simp [VRel]⟩
          · rename_i hv'
            rw [hv'] at ex
            simp only [VRel] at ex
            obtain ⟨u, hu, _⟩ := ex
            rw [hu]
            exact ⟨v, h, by simp only [Option.some.injEq] at h; subst h; simp [VRel]⟩
          · rename_i hv'
            rw [hv'] at ex
            simp only [VRel] at ex
            obtain ⟨u, hu, _⟩ := ex
            rw [hu]
            exact ⟨v, h, by simp only [Option.some.injEq] at h; subst h; simp [VRel]⟩
          · cases h
        all_goals simp [vpure] at h
  case mkfn f xs =>
    subst h
    exact ⟨_, rfl, by simp only [VRel]; exact ⟨_, rfl, evs_rel hs hok.1⟩⟩
  case convI k x =>
    split at h
    · rename_i k' b hb
      rw [hb] at hp
      rw [hb, VRel.int_iff] at E
      rw [E]
      simp only [Option.some.injEq] at h ⊢; subst h
      exact ⟨hp, _, rfl, by simp [VRel]⟩
    · cases h
  case nilCheck => exact nilCheckV_rel E h
  case binB => exact binBV_rel E.1 E.2 h
  case eqS => exact eqSV_rel E.1 E.2 h
  case minmax => exact minmaxV_rel E.1 E.2 h
  case bstr => exact bytesV_rel hm E h
  case build zero parts =>
    simp only [Option.map_eq_some_iff] at h
    obtain ⟨l, hl, rfl⟩ := h
    have hpr : ∀ ps : List (Nat × Nat × VX), (∀ p ∈ ps, okX p.2.2 = true) → PartsRel R (ps.map fun p => (p.1, p.2.1, p.2.2.ev s)) (ps.map fun p => (p.1, p.2.1, p.2.2.ev s')) := by
      intro ps
      induction ps with
      | nil => intro _; simp [PartsRel]
      | cons p ps ih =>
        intro hps
        simp only [List.map_cons, PartsRel]
        exact ⟨_, _, rfl, ev_rel hs (hps p (by simp)), ih fun q hq => hps q (by simp [hq])⟩
    obtain ⟨l', h1, h2⟩ := buildV_rel (noidL_refl zero hok.2) (hpr parts fun p hp => hx _ (by simp only [VOp.xs, List.mem_map]; exact ⟨p, hp, rfl⟩)) hl
    exact ⟨.agg l', by rw [h1]; rfl, VRel.agg h2⟩
end
end Go.Vc
namespace Go.Vc
variable {R : Nat → Nat → Prop} {K : Store} {fl : Nat} {P : Program} {n : Nat}
structure SRel (K : Store) (fl : Nat) (R : Nat → Nat → Prop) (cs : CS) (st : St) : Prop where
  slot : ∀ i, VRel R (cs.sf i) (st.s i)
  mem : MRel K fl R (stF cs.σ) cs.nxt st.σ
theorem slots_put {s s' : Nat → V} (h : ∀ i, VRel R (s i) (s' i)) {d : Option Nat} {v u : V} (hv : VRel R v u) : ∀ i, VRel R (putO s d v i) (putO s' d u i) := by
  intro i
  cases d with
  | none => exact h i
  | some d =>
    show VRel R (if i = d then v else s i) (if i = d then u else s' i)
    split
    · exact hv
    · exact h i
theorem SRel.put {cs : CS} {st : St} (h : SRel K fl R cs st) {d : Option Nat} {v u : V} (hv : VRel R v u) : SRel K fl R (cs.put d v) ⟨putO st.s d u, st.σ⟩ := by
  refine ⟨?_, ?_⟩
  · rw [sf_put]; exact slots_put h.slot hv
  · rw [(put_σ cs d v).1, (put_σ cs d v).2]; exact h.mem
theorem VRel.nilt : VRel R (.tup []) (.tup []) := by simp [VRel, VRelL]
theorem eqQ_eq (a b : Int) : eqQ a b = decide (a = b) := by
  cases a <;> cases b <;> rw [Bool.eq_iff_iff] <;> simp [eqQ] <;> first | rfl | omega
theorem leQ_eq (a b : Int) : leQ a b = decide (a ≤ b) := by
  cases a <;> cases b <;> rw [Bool.eq_iff_iff] <;> simp only [leQ, Nat.ble_eq, decide_eq_true_eq, Bool.false_eq_true, false_iff, true_iff, Int.ofNat_eq_natCast] <;> omega
theorem addQ_eq (a b : Int) : addQ a b = a + b := by cases a <;> cases b <;> rfl
theorem subQ_eq (a b : Int) : subQ a b = a - b := by
  cases a <;> cases b <;> simp only [subQ]
  rename_i m k
  cases h : Nat.ble k m
  · have : ¬ k ≤ m := by rw [← Nat.ble_eq]; simp [h]
    simp only [Nat.sub_eq, Int.ofNat_eq_natCast]
    omega
  · have : k ≤ m := Nat.le_of_ble_eq_true h
    simp only [Nat.sub_eq, Int.ofNat_eq_natCast]
    omega
theorem in64_eq {a : Int} (h : in64 a = true) : inR .i64 a := by
  cases a <;> simp only [in64, Nat.ble_eq] at h
  · rw [Int.ofNat_eq_natCast]; exact inR_i64 (by omega) (by omega)
  · exact inR_i64 (by omega) (by omega)
theorem inRB_eq {k : IntKind} {a : Int} (h : inRB k a = true) : inR k a := by
  unfold inRB at h
  split at h
  · exact in64_eq h
  · simpa [inR] using h
theorem bcase {α : Type} {b : Bool} {x y : α} : @Bool.casesOn (fun _ => α) b x y = if b then y else x := by cases b <;> rfl
theorem brec {α : Type} {b : Bool} {x y : α} : @Bool.rec (fun _ => α) x y b = if b then y else x := by cases b <;> rfl
theorem gI_eq {k : IntKind} {a : Int} {v : V} (h : gI k a = some v) : v = .int k a ∧ inR k a := by
  unfold gI at h
  rw [bcase] at h
  split at h
  · rename_i hi
    simp only [Option.some.injEq] at h
    exact ⟨h.symm, inRB_eq hi⟩
  · cases h
theorem intBinQ_eq {op : BinOp} {k : IntKind} {a b : Int} {v : V} (h : (intBinQ op).f k a b = some v) : intPre op k a b ∧ intBin op k a b = some v := by
  unfold intBinQ at h
  split at h <;> simp only [] at h
  · obtain ⟨rfl, h2⟩ := gI_eq h; rw [addQ_eq] at *; exact ⟨h2, rfl⟩
  · obtain ⟨rfl, h2⟩ := gI_eq h; rw [subQ_eq] at *; exact ⟨h2, rfl⟩
  · obtain ⟨rfl, h2⟩ := gI_eq h; exact ⟨h2, rfl⟩
  · split at h
    · cases h
    · rename_i hb
      obtain ⟨rfl, h2⟩ := gI_eq h; exact ⟨h2, by simp [intBin, hb]⟩
  · split at h
    · cases h
    · rename_i hb
      simp only [Option.some.injEq] at h; subst h
      exact ⟨trivial, by simp [intBin, hb]⟩
  all_goals first
    | exact ⟨trivial, h⟩
    | (simp only [Option.some.injEq] at h; subst h; refine ⟨trivial, ?_⟩; simp only [eqQ_eq, leQ_eq, intBin, Option.some.injEq, V.bool.injEq]; try (rw [Bool.eq_iff_iff]; simp))
    | cases h
theorem strBinQ_eq {op : BinOp} {a b : List UInt8} {v : V} (h : strBinQ op a b = some v) : strPre op a b ∧ strBin op a b = some v := by
  unfold strBinQ at h
  split at h
  · rw [bcase] at h
    split at h
    · rename_i hb
      simp only [Option.some.injEq] at h; subst h
      exact ⟨Nat.le_of_ble_eq_true hb, rfl⟩
    · cases h
  · exact ⟨trivial, h⟩
  · exact ⟨trivial, h⟩
  · cases h
theorem sameK_eq {k k' : IntKind} (h : sameK k k' = true) : k = k' := by
  unfold sameK at h
  rw [bcase] at h
  cases k <;> cases k' <;> simp_all [is64, eqK]
theorem binQ_eq {op : BinOp} {x y v : V} (h : binQ op (intBinQ op).f y x = some v) : binPre op x y ∧ binV op x y = some v := by
  unfold binQ at h
  split at h
  · unfold binI at h
    split at h
    · rw [bcase] at h
      split at h
      · rename_i hk
        have := sameK_eq hk
        subst this
        obtain ⟨h1, h2⟩ := intBinQ_eq h
        exact ⟨h1, by simp [binV, h2]⟩
      · cases h
    · cases h
  · unfold binS at h
    split at h
    · exact strBinQ_eq h
    · cases h
  · cases h
theorem idxQ_eq {σ : Tr (Option Ob)} {esz : Nat} {x i v : V} (h : idxQ σ esz x i = some v) : idxAV (stF σ) esz x i = some v := by
  unfold idxQ at h
  split at h
  · split at h
    · rename_i m hm
      have hj := hm
      unfold natQ at hm
      split at hm
      · simp only [Option.some.injEq] at hm; subst hm
        split at h
        · rename_i ob hob
          rw [bcase] at h
          split at h
          · rename_i hc
            simp only [Bool.and_eq_true, Nat.beq_eq, Nat.blt_eq] at hc
            have e : stF σ _ = some ob := hob
            simp only [idxAV, e]
            rw [if_pos ⟨hc.1, by simp, by simpa using hc.2⟩]
            exact h
          · cases h
        · cases h
      · cases hm
    · cases h
  · split at h
    · rename_i m hm
      unfold natQ at hm
      split at hm
      · simp only [Option.some.injEq] at hm; subst hm
        rw [bcase] at h
        split at h
        · rename_i hc
          rw [Nat.beq_eq] at hc
          simp only [idxAV]
          rw [if_pos ⟨hc, by simp⟩]
          exact h
        · cases h
      · cases hm
    · cases h
  · cases h
theorem idxSQ_eq {x i v : V} (h : idxSQ x i = some v) : idxSV x i = some v := by
  unfold idxSQ at h
  split at h
  · split at h
    · rename_i m hm
      unfold natQ at hm
      split at hm
      · simp only [Option.some.injEq] at hm; subst hm
        simp only [idxSV]
        rw [if_pos (by simp)]
        exact h
      · cases hm
    · cases h
  · cases h
theorem loadQ_eq {σ : Tr (Option Ob)} {agg : Bool} {sz : Nat} {x v : V} (h : loadQ σ agg sz x = some v) : loadV (stF σ) agg sz x = some v := by
  unfold loadQ at h
  split at h
  · split at h
    · rename_i ob hob
      have e : stF σ _ = some ob := hob
      split at h
      · rename_i r hr
        simp only [loadV, e, hr]
        split at h
        · rw [bcase, bcase] at h
          simp only [if_true]
          split at h
          · rename_i hc
            simp only [Bool.and_eq_true, Nat.beq_eq] at hc
            rw [if_pos hc]; exact h
          · rename_i hc
            split at h
            · rename_i hc'
              rw [if_neg (by simpa using hc), if_pos (show _ + sz ≤ _ from Nat.le_of_ble_eq_true hc')]; exact h
            · cases h
        · simpa using h
      · cases h
    · cases h
  · exact h
theorem pure_case {draw : Bool} {call : CallT} {dst : Option Nat} {op : VOp} {cs cs' : CS} {st : St} (hk : okind op = 0) (hok : okOp op = true) (h : SRel K fl R cs st)
    (hr : (compO draw dst op).f call fl cs = some cs') : ∃ v', vpre st.s op ∧ vpure st.σ st.s op = some v' ∧ SRel K fl R cs' ⟨putO st.s dst v', st.σ⟩ := by
  have key : ∃ v, vpre cs.sf op ∧ vpure (stF cs.σ) cs.sf op = some v ∧ cs' = cs.put dst v := by
    have hp : ∀ (g : CS → Option V), (pureB dst g).f call fl cs = some cs' → ∃ v, g cs = some v ∧ cs' = cs.put dst v := by
      intro g hg
      simp only [pureB] at hg
      split at hg
      · rename_i v hv
        simp only [Option.some.injEq] at hg
        exact ⟨v, hv, hg.symm⟩
      · cases hg
    cases op <;> simp only [okind, reduceCtorEq, Nat.reduceEqDiff] at hk <;> simp only [compO] at hr
    case mov x =>
      simp only [movB, Option.some.injEq] at hr
      exact ⟨_, trivial, rfl, hr.symm⟩
    case bin op x y =>
      have hr' : (pureB dst fun cs => binQ op (intBinQ op).f (y.ev cs.sf) (x.ev cs.sf)).f call fl cs = some cs' := hr
      obtain ⟨v, h1, h2⟩ := hp _ hr'
      obtain ⟨h3, h4⟩ := binQ_eq h1
      exact ⟨v, h3, h4, h2⟩
    case pick c a b =>
      obtain ⟨v, h1, h2⟩ := hp _ hr
      refine ⟨v, trivial, ?_, h2⟩
      simp only [vpure]
      unfold pickQ at h1
      split at h1
      · rename_i t ht
        rw [bcase] at h1
        rw [ht]
        exact h1
      · cases h1
    case not x =>
      obtain ⟨v, h1, h2⟩ := hp _ hr
      refine ⟨v, trivial, ?_, h2⟩
      simp only [vpure]
      unfold notQ at h1
      split at h1
      · rename_i t ht; rw [ht]; exact h1
      · cases h1
    case neg x =>
      obtain ⟨v, h1, h2⟩ := hp _ hr
      unfold negQ at h1
      split at h1
      · rename_i k t ht
        obtain ⟨h3, h4⟩ := gI_eq h1
        exact ⟨v, by simp only [vpre, ht]; exact h4, by simp only [vpure, ht, h3], h2⟩
      · cases h1
    case convI k x =>
      obtain ⟨v, h1, h2⟩ := hp _ hr
      unfold convQ at h1
      split at h1
      · rename_i k t ht
        obtain ⟨h3, h4⟩ := gI_eq h1
        exact ⟨v, by simp only [vpre, ht]; exact h4, by simp only [vpure, ht, h3], h2⟩
      · cases h1
    case idxA => obtain ⟨v, h1, h2⟩ := hp _ hr; exact ⟨v, trivial, idxQ_eq h1, h2⟩
    case idxS => obtain ⟨v, h1, h2⟩ := hp _ hr; exact ⟨v, trivial, idxSQ_eq h1, h2⟩
    case load => obtain ⟨v, h1, h2⟩ := hp _ hr; exact ⟨v, trivial, loadQ_eq h1, h2⟩
    all_goals (obtain ⟨v, h1, h2⟩ := hp _ hr; exact ⟨v, trivial, h1, h2⟩)
  obtain ⟨v, h1, h2, rfl⟩ := key
  obtain ⟨h3, v', h4, h5⟩ := vpure_rel h.mem.live h.slot hok h1 h2
  exact ⟨v', h3, h4, h.put h5⟩
theorem srcRows_rel {σc σ : Store} (hm : Lv R σc σ) {sz : Nat} {x x' : V} {l : List V} (hx : VRel R x x') (h : srcRows σc sz x = some l) : ∃ l', srcRows σ sz x' = some l' ∧ VRelL R l l' := by
  unfold srcRows at h
  split at h
  · simp only [VRel] at hx
    obtain ⟨a, rfl, ha⟩ := hx
    split at h
    · rename_i ob hob
      obtain ⟨rows', h1, h2⟩ := hm _ _ _ ha hob
      split at h
      · rename_i hc
        simp only [Option.some.injEq] at h; subst h
        refine ⟨_, ?_, (h2.drop _).take _⟩
        simp only [srcRows, h1, h2.length]
        rw [if_pos hc]
      · cases h
    · cases h
  · simp only [VRel] at hx
    obtain ⟨rows', rfl, hr⟩ := hx
    split at h
    · rename_i hc
      simp only [Option.some.injEq] at h; subst h
      exact ⟨rows', by simp [srcRows, hc], hr⟩
    · cases h
  · simp only [VRel] at hx; subst hx
    simp only [Option.some.injEq] at h; subst h
    exact ⟨[], rfl, by simp [VRelL]⟩
  · rename_i s
    simp only [VRel] at hx; subst hx
    refine ⟨l, h, ?_⟩
    split at h
    · simp only [Option.some.injEq] at h; subst h
      induction s with
      | nil => simp [VRelL]
      | cons b s ih => simp only [List.map_cons, VRelL]; exact ⟨_, _, rfl, by simp [VRel], ih⟩
    · cases h
  · cases h
theorem dstRows_rel {σc σ : Store} (hm : Lv R σc σ) {e sz : Nat} {x x' : V} {l : List V} {d : Option Nat} (hx : VRel R x x') (h : dstRows σc e sz x = some (l, d)) :
    ∃ l' d', dstRows σ e sz x' = some (l', d') ∧ VRelL R l l' ∧ (d = none ∧ d' = none ∨ ∃ c a o, d = some c ∧ d' = some a ∧ R c a ∧ σc c = some o) := by
  unfold dstRows at h
  split at h
  · simp only [VRel] at hx
    obtain ⟨a, rfl, ha⟩ := hx
    split at h
    · rename_i ob hob
      obtain ⟨rows', h1, h2⟩ := hm _ _ _ ha hob
      split at h
      · rename_i hc
        simp only [Option.some.injEq, Prod.mk.injEq] at h
        obtain ⟨rfl, rfl⟩ := h
        refine ⟨_, some a, ?_, h2.take _, .inr ⟨_, a, ob, rfl, rfl, ha, hob⟩⟩
        simp only [dstRows, h1, h2.length]
        rw [if_pos hc]
      · cases h
    · cases h
  · simp only [VRel] at hx; subst hx
    simp only [Option.some.injEq, Prod.mk.injEq] at h
    obtain ⟨rfl, rfl⟩ := h
    exact ⟨[], none, rfl, by simp [VRelL], .inl ⟨rfl, rfl⟩⟩
  · cases h
theorem addRow_rel {dst : Option Nat} {cs cs' : CS} {st : St} (h : SRel K fl R cs st) {m : Mk} {rows' : List V} {d' : Option Nat} (hrows : VRelL R m.ob.rows rows')
    (hd : m.gone = none ∧ d' = none ∨ ∃ c a o, m.gone = some c ∧ d' = some a ∧ R c a ∧ stF cs.σ c = some o) (hr : addRow fl dst cs m = some cs') {id : Nat} (hid : st.σ id = none) :
    ∃ R', (∀ a b, R a b → R' a b) ∧ SRel K fl R' cs' ⟨putO st.s dst (if m.var then .ptr id 0 0 else .own id 0 m.len), upd (delO st.σ d') id ⟨m.ob.elem, m.ob.sz, rows'⟩⟩ := by
  refine ⟨ext R cs.nxt id, ext_le _ _, ?_⟩
  have hval : VRel (ext R cs.nxt id) (@Bool.casesOn (fun _ => V) m.var (.own cs.nxt 0 m.len) (.ptr cs.nxt 0 0)) (if m.var then .ptr id 0 0 else .own id 0 m.len) := by
    cases m.var
    · simp only [VRel, Bool.false_eq_true, if_false]; exact ⟨id, rfl, .inr ⟨rfl, rfl⟩⟩
    · simp only [VRel, if_true]; exact ⟨id, rfl, .inr ⟨rfl, rfl⟩⟩
  have hslot : ∀ i, VRel (ext R cs.nxt id) (cs.sf i) (st.s i) := fun i => VRel.mono (ext_le _ _) _ _ (h.slot i)
  unfold addRow at hr
  rcases hd with ⟨e1, rfl⟩ | ⟨c, a, o, e1, rfl, hR, ho⟩
  · rw [e1] at hr
    simp only [Option.some.injEq] at hr
    subst hr
    have hm := h.mem.new hid hrows
    have hS : SRel K fl (ext R cs.nxt id) ⟨cs.s, setP none (some m.ob) cs.nxt cs.σ, Nat.succ cs.nxt⟩ ⟨st.s, upd st.σ id ⟨m.ob.elem, m.ob.sz, rows'⟩⟩ :=
      ⟨hslot, by simp only [stF_set]; exact hm⟩
    exact hS.put hval
  · rw [e1] at hr
    simp only [bcase] at hr
    split at hr
    · rename_i hf
      simp only [Option.some.injEq] at hr
      subst hr
      have h1 := h.mem.rem hR ho (Nat.le_of_ble_eq_true hf)
      have hid' : del st.σ a id = none := by
        by_cases e : id = a
        · simp [del, e]
        · rw [del_ne e]; exact hid
      have hm := h1.new hid' hrows
      have hS : SRel K fl (ext R cs.nxt id) ⟨cs.s, setP none (some m.ob) cs.nxt (setP none none c cs.σ), Nat.succ cs.nxt⟩ ⟨st.s, upd (del st.σ a) id ⟨m.ob.elem, m.ob.sz, rows'⟩⟩ :=
        ⟨hslot, by simp only [stF_set, stF_del]; exact hm⟩
      rw [bcase] at hval
      exact hS.put hval
    · cases hr
theorem row_case {draw : Bool} {call : CallT} {dst : Option Nat} {op : VOp} {cs cs' : CS} {st : St} (hk : okind op = 3) (hok : okOp op = true) (h : SRel K fl R cs st)
    (hr : (compO draw dst op).f call fl cs = some cs') : ∃ g', eff st.s st.σ op = some g' ∧ ∀ id, st.σ id = none → ∃ R', (∀ a b, R a b → R' a b) ∧
      SRel K fl R' cs' ⟨putO st.s dst (g' id).1, (g' id).2⟩ := by
  have hp : ∀ (g : CS → Option Mk), (rowB dst g).f call fl cs = some cs' → ∃ m, g cs = some m ∧ addRow fl dst cs m = some cs' := by
    intro g hg
    simp only [rowB] at hg
    split at hg
    · rename_i v hv
      exact ⟨v, hv, hg⟩
    · cases hg
  simp only [okOp, Bool.and_eq_true] at hok
  have hx := List.all_eq_true.1 hok.1
  cases op <;> simp only [okind, reduceCtorEq, Nat.reduceEqDiff] at hk <;> simp only [compO] at hr
  case more m xs => cases m <;> simp at hk
  case alloc e sz z =>
    obtain ⟨m, h1, h2⟩ := hp _ hr
    simp only [Option.some.injEq] at h1; subst h1
    refine ⟨_, rfl, fun id hid => ?_⟩
    have := addRow_rel (d' := none) h (VRelL.one (noid_refl (R := R) z hok.2)) (.inl ⟨rfl, rfl⟩) h2 hid
    simpa [delO] using this
  case box e sz x =>
    obtain ⟨m, h1, h2⟩ := hp _ hr
    have hv := ev_rel h.slot (hx x (by simp [VOp.xs]))
    unfold boxQ at h1
    rw [bcase] at h1
    split at h1
    · rename_i hc
      simp only [Bool.and_eq_true, Nat.beq_eq] at hc
      simp only [Option.some.injEq] at h1; subst h1
      refine ⟨fun id => (.ptr id 0 0, upd st.σ id ⟨e, sz, [x.ev st.s]⟩), ?_, fun id hid => ?_⟩
      · simp only [eff]
        rw [if_pos ⟨by rw [hv.cells.length]; exact hc.1, by rw [hv.stays]; exact hc.2⟩]
      · have := addRow_rel (d' := none) h (VRelL.one hv) (.inl ⟨rfl, rfl⟩) h2 hid
        simpa [delO] using this
    · cases h1
  case appz => simp [pureB, vpure] at hr
  case mk e sz bytes z x =>
    obtain ⟨m, h1, h2⟩ := hp _ hr
    have hv := ev_rel h.slot (hx x (by simp [VOp.xs]))
    unfold mkQ at h1
    split at h1
    · rename_i kk mm hxe
      rw [hxe] at hv
      simp only [VRel] at hv
      split at h1
      · split at h1
        · rename_i j hj
          rw [bcase] at h1
          split at h1
          · rename_i hc
            simp only [Option.some.injEq] at h1; subst h1
            have hmj : mm = (j : Int) := by
              cases mm <;> simp only [natQ, Option.some.injEq, reduceCtorEq] at hj
              subst hj; rfl
            subst hmj
            refine ⟨fun id => (.own id 0 j, upd st.σ id ⟨e, sz, List.replicate j z⟩), ?_, fun id hid => ?_⟩
            · simp only [eff]
              rw [hv]
              have hc' : j * (bytes + 1) ≤ 140737488355328 := Nat.le_of_ble_eq_true hc
              simp only [Int.toNat_natCast]
              rw [if_pos ⟨by omega, hc'⟩]
            · have := addRow_rel (d' := none) h (VRelL.replicate (noid_refl (R := R) z hok.2) j) (.inl ⟨rfl, rfl⟩) h2 hid
              simpa [delO] using this
          · cases h1
        · cases h1
      · cases h1
    · cases h1
  case bslice e sz xs =>
    obtain ⟨m, h1, h2⟩ := hp _ hr
    have hv := evs_rel h.slot hok.1
    simp only [VOp.xs] at hv
    unfold bsliceQ at h1
    rw [bcase] at h1
    split at h1
    · rename_i hc
      simp only [Option.some.injEq] at h1; subst h1
      refine ⟨fun id => (.own id 0 xs.length, upd st.σ id ⟨e, sz, xs.map (·.ev st.s)⟩), ?_, fun id hid => ?_⟩
      · simp only [eff]
        rw [if_pos]
        rw [List.all_eq_true]
        intro y hy
        rw [List.mem_map] at hy
        obtain ⟨x, hxx, rfl⟩ := hy
        have hvx := ev_rel h.slot (hx x (by simp [VOp.xs, hxx]))
        have := List.all_eq_true.1 hc (x.ev cs.sf) (List.mem_map.2 ⟨x, hxx, rfl⟩)
        simp only [Bool.and_eq_true, Nat.beq_eq] at this
        simp [hvx.cells.length, hvx.stays, this]
      · have := addRow_rel (d' := none) h hv (.inl ⟨rfl, rfl⟩) h2 hid
        simpa [delO] using this
    · cases h1
  case append e sz bytes xa xb =>
    obtain ⟨m, h1, h2⟩ := hp _ hr
    have ha := ev_rel h.slot (hx xa (by simp [VOp.xs]))
    have hb := ev_rel h.slot (hx xb (by simp [VOp.xs]))
    unfold appendQ at h1
    split at h1
    · rename_i base idA src e1 e2
      obtain ⟨base', d', g1, g2, g3⟩ := dstRows_rel h.mem.live ha e1
      obtain ⟨src', g4, g5⟩ := srcRows_rel h.mem.live hb e2
      rw [bcase] at h1
      split at h1
      · rename_i hc
        simp only [Option.some.injEq] at h1; subst h1
        refine ⟨fun id => (.own id 0 (base'.length + src'.length), upd (delO st.σ d') id ⟨e, sz, base' ++ src'⟩), ?_, fun id hid => ?_⟩
        · simp only [eff, g1, g4]
          rw [if_pos (by rw [g2.length, g5.length]; exact Nat.le_of_ble_eq_true hc)]
        · have := addRow_rel h (g2.append g5) g3 h2 hid
          simpa [g2.length, g5.length] using this
      · cases h1
    · cases h1
theorem setRowV_rel {r r' x x' q : V} {k sz : Nat} (hr : VRel R r r') (hx : VRel R x x') (h : setRowV r k sz x = some q) : ∃ q', setRowV r' k sz x' = some q' ∧ VRel R q q' := by
  unfold setRowV at h
  split at h
  · rename_i hc
    have hc' : x'.cells.length = sz ∧ x'.stays = true := ⟨by rw [hx.cells.length]; exact hc.1, by rw [hx.stays]; exact hc.2⟩
    split at h
    · rename_i hd
      simp only [Option.some.injEq] at h; subst h
      refine ⟨x', ?_, hx⟩
      unfold setRowV
      rw [if_pos hc', if_pos ⟨hd.1, by rw [hr.cells.length]; exact hd.2⟩]
    · rename_i hd
      split at h
      · rename_i he
        simp only [Option.some.injEq] at h; subst h
        refine ⟨_, ?_, VRel.agg (((hr.cells.take k).append hx.cells).append (hr.cells.drop (k + sz)))⟩
        unfold setRowV
        rw [if_pos hc', if_neg (by rw [hr.cells.length]; exact hd), if_pos (by rw [hr.cells.length]; exact he)]
      · cases h
  · cases h
theorem store_case {dst : Option Nat} {sz : Nat} {xa xv : VX} {call : CallT} {cs cs' : CS} {st : St} (hok : okOp (.store sz xa xv) = true) (h : SRel K fl R cs st)
    (hr : (storeB dst sz xa xv).f call fl cs = some cs') : ∃ σ', storeS st.σ sz (xa.ev st.s) (xv.ev st.s) = some σ' ∧ SRel K fl R cs' ⟨putO st.s dst (.tup []), σ'⟩ := by
  simp only [okOp, VOp.xs, List.all_cons, List.all_nil, Bool.and_true, Bool.and_eq_true] at hok
  have ha := ev_rel h.slot hok.1
  have hv := ev_rel h.slot hok.2
  simp only [storeB, storeIn] at hr
  split at hr
  · rename_i id i0 c hptr
    rw [hptr] at ha
    simp only [VRel] at ha
    obtain ⟨a, ha1, ha2⟩ := ha
    rw [brec] at hr
    split at hr
    · rename_i hf
      split at hr
      · rename_i ob hob
        have hob' : stF cs.σ id = some ob := hob
        obtain ⟨rows', h1, h2⟩ := h.mem.live _ _ _ ha2 hob'
        split at hr
        · rename_i r hrr
          obtain ⟨r', h3, h4⟩ := h2.get hrr
          split at hr
          · rename_i q hq
            obtain ⟨q', h5, h6⟩ := setRowV_rel h4 hv hq
            simp only [Option.some.injEq] at hr
            subst hr
            refine ⟨upd st.σ a ⟨ob.elem, ob.sz, rows'.set i0 q'⟩, ?_, ?_⟩
            · simp only [storeS, ha1, h1, h3, h5]
            · have hm := h.mem.write ha2 hob' (Nat.le_of_ble_eq_true hf) (h2.set i0 h6)
              have hS : SRel K fl R ⟨cs.s, setP none (some ⟨ob.elem, ob.sz, ob.rows.set i0 q⟩) id cs.σ, cs.nxt⟩ ⟨st.s, upd st.σ a ⟨ob.elem, ob.sz, rows'.set i0 q'⟩⟩ :=
                ⟨h.slot, by simp only [stF_set]; exact hm⟩
              exact hS.put VRel.nilt
          · cases hr
        · cases hr
      · cases hr
    · cases hr
  · cases hr
end Go.Vc
namespace Go.Vc
variable {P : Program} {n : Nat}
def Le (R R' : Nat → Nat → Prop) : Prop := ∀ a b, R a b → R' a b
theorem Le.refl (R : Nat → Nat → Prop) : Le R R := fun _ _ h => h
theorem Le.trans {R R' R'' : Nat → Nat → Prop} (h : Le R R') (h' : Le R' R'') : Le R R'' := fun a b g => h' a b (h a b g)
def CallOk (P : Program) (call : CallT) : Prop := ∀ g args σc nxt fl r, call g args σc nxt fl = some r → ∀ (K : Store) (R : Nat → Nat → Prop) (σ : Store) (args' : List V),
  MRel K fl R (stF σc) nxt σ → VRelL R args args' → Contract P g args' σ fun v σ' => ∃ R', Le R R' ∧ VRel R' r.v v ∧ MRel K fl R' (stF r.σ) r.nxt σ'
theorem Contract.drop {f : FuncId} {args : List V} {σ : Store} {Post Post' : V → Store → Prop} (h : Contract P f args σ Post)
    (hp : ∀ r σ', Post r σ' → ∃ σ0, SubStore σ0 σ' ∧ Post' r σ0) : Contract P f args σ Post' := by
  refine ⟨h.1, fun μ w vals hs hr => (h.2 μ w vals hs hr).mono ?_⟩
  rintro e w' ⟨r, σ', μ', val, h1, h2, h3, h4, h5⟩
  obtain ⟨σ0, h6, h7⟩ := hp r σ' h2
  exact ⟨r, σ0, μ', val, h1, h7, h3, h4.drop h6, Wk.refl h6 r μ' _ _ _ val h4 h5⟩
section
variable {call : CallT} {K : Store} {fl : Nat} {R : Nat → Nat → Prop} {cs cs' : CS} {st : St} {Q : St → Prop} {k : List It}
theorem compI_split {draw : Bool} {i : VIns} (hok : okIns i = true) (h : SRel K fl R cs st) (hr : (compI draw i).f call fl cs = some cs') :
    (wantV st.s i.g = some true ∧ (compO draw i.dst i.op).f call fl cs = some cs') ∨ (wantV st.s i.g = some false ∧ cs' = cs.put i.dst (.tup [])) := by
  simp only [okIns, Bool.and_eq_true] at hok
  unfold compI at hr
  split at hr
  · rename_i hg
    exact .inl ⟨by simp [hg, wantV], hr⟩
  · rename_i x b hg
    have hx := hok.2
    simp only [hg] at hx
    have hv := ev_rel h.slot hx
    simp only [guardB] at hr
    split at hr
    · rename_i c hc
      rw [hc, VRel.bool_iff] at hv
      rw [brec] at hr
      split at hr
      · rename_i hcb
        simp only [Option.some.injEq] at hr
        refine .inr ⟨?_, hr.symm⟩
        simp only [hg, wantV, hv]
        cases c <;> cases b <;> simp_all
      · rename_i hcb
        refine .inl ⟨?_, hr⟩
        simp only [hg, wantV, hv]
        cases c <;> cases b <;> simp_all
    · rename_i hc
      rw [hc] at hv
      simp only [VRel, VRelL] at hv
      obtain ⟨c', hv, rfl⟩ := hv
      simp only [Option.some.injEq] at hr
      exact .inr ⟨by simp only [hg, wantV, hv], hr.symm⟩
    · rename_i hc
      rw [hc, VRel.int_iff] at hv
      simp only [Option.some.injEq] at hr
      exact .inr ⟨by simp only [hg, wantV, hv], hr.symm⟩
    · cases hr
theorem bad_not {draw : Bool} {dst : Option Nat} {op : VOp} (h : op = .bad ∨ (∃ b x, op = .rngS b x) ∨ (∃ x, op = .nxtS x) ∨ ∃ m xs, op = .more m xs ∧ okind op = 4) (hr : (compO draw dst op).f call fl cs = some cs') : False := by
  rcases h with rfl | ⟨b, x, rfl⟩ | ⟨x, rfl⟩ | ⟨m, xs, rfl, hk⟩
  case inr.inr.inr => cases m <;> simp [okind] at hk <;> simp [compO, pureB, vpure] at hr
  all_goals simp [compO, pureB, vpure] at hr
theorem okind_cases (op : VOp) : okind op = 0 ∨ (∃ fx xs, op = .call fx xs) ∨ (∃ sz a x, op = .store sz a x) ∨ okind op = 3 ∨ (∃ sz z x, op = .clear sz z x) ∨ (op = .bad ∨ (∃ b x, op = .rngS b x) ∨ (∃ x, op = .nxtS x) ∨ ∃ m xs, op = .more m xs ∧ okind op = 4) := by
  cases op
  case more m xs => cases m <;> simp [okind]
  all_goals simp [okind]
theorem ins_run (hc : CallOk P call) {i : VIns} {l : List VIns} (hok : okIns i = true) (h : SRel K fl R cs st) (hr : (compI false i).f call fl cs = some cs')
    (hk : ∀ R' st', Le R R' → SRel K fl R' cs' st' → Runs P n (.ops l :: k) st' Q) : Runs P n (.ops (i :: l) :: k) st Q := by
  have hop : okOp i.op = true := by simp only [okIns, Bool.and_eq_true] at hok; exact hok.1
  rcases compI_split hok h hr with ⟨hw, hr⟩ | ⟨hw, rfl⟩
  · rcases okind_cases i.op with h0 | ⟨fx, xs, h0⟩ | ⟨sz, a, x, h0⟩ | h0 | ⟨sz, z, x, h0⟩ | h0
    · obtain ⟨v', h1, h2, h3⟩ := pure_case h0 hop h hr
      exact Runs.pure hw h1 h2 (hk R _ (Le.refl R) h3)
    · rw [h0] at hr hop
      simp only [compO, callB] at hr
      simp only [okOp, VOp.xs, List.all_cons, Bool.and_eq_true] at hop
      split at hr
      · rename_i f caps hf
        have hfx := ev_rel h.slot hop.1.1
        rw [hf] at hfx
        simp only [VRel] at hfx
        obtain ⟨caps', hf', hcaps⟩ := hfx
        generalize hcl : call f (xs.map (·.ev cs.sf) ++ caps) cs.σ cs.nxt fl = r at hr
        cases r with
        | none => simp [callIn] at hr
        | some r =>
          simp only [callIn, Option.some.injEq] at hr
          refine Runs.call hw h0 hf' (hc _ _ _ _ _ _ hcl K R st.σ _ h.mem ((evs_rel h.slot hop.1.2).append hcaps)) ?_
          rintro v σ' ⟨R', hle, hv, hm⟩
          have hS : SRel K fl R' ⟨cs.s, r.σ, r.nxt⟩ ⟨st.s, σ'⟩ := ⟨fun j => VRel.mono hle _ _ (h.slot j), hm⟩
          exact hk R' _ hle (hr ▸ hS.put hv)
      · cases hr
    · rw [h0] at hr hop
      obtain ⟨σ', h1, h2⟩ := store_case hop h hr
      exact Runs.storeS hw h0 h1 (hk R _ (Le.refl R) h2)
    · obtain ⟨g', h1, h2⟩ := row_case h0 hop h hr
      refine Runs.eff hw h1 fun id hid => ?_
      obtain ⟨R', h3, h4⟩ := h2 id hid
      exact hk R' _ h3 h4
    · rw [h0] at hr hop
      simp only [compO, clearB, clearIn] at hr
      simp only [okOp, VOp.xs, List.all_cons, List.all_nil, Bool.and_true, Bool.and_eq_true] at hop
      have hx := ev_rel h.slot hop.1
      split at hr
      · rename_i id off len hid
        rw [hid] at hx
        simp only [VRel] at hx
        obtain ⟨a, ha1, ha2⟩ := hx
        rw [brec] at hr
        split at hr
        · rename_i hf
          split at hr
          · rename_i ob hob
            have hob' : stF cs.σ id = some ob := hob
            obtain ⟨rows', g1, g2⟩ := h.mem.live _ _ _ ha2 hob'
            rw [brec] at hr
            split at hr
            · rename_i hcc
              simp only [Bool.and_eq_true, Nat.beq_eq, Nat.ble_eq] at hcc
              simp only [Option.some.injEq] at hr
              refine Runs.clear hw h0 ha1 g1 hcc.1 (by rw [g2.length]; exact hcc.2) ?_
              have hm := h.mem.write ha2 hob' (Nat.le_of_ble_eq_true hf) (((g2.take off).append (VRelL.replicate (noid_refl (R := R) z hop.2) len)).append (g2.drop (off + len)))
              have hS : SRel K fl R ⟨cs.s, setP none (some ⟨ob.elem, ob.sz, ob.rows.take off ++ List.replicate len z ++ ob.rows.drop (off + len)⟩) id cs.σ, cs.nxt⟩
                  ⟨st.s, upd st.σ a ⟨ob.elem, ob.sz, rows'.take off ++ List.replicate len z ++ rows'.drop (off + len)⟩⟩ := ⟨h.slot, by simp only [stF_set]; exact hm⟩
              exact hk R _ (Le.refl R) (hr ▸ hS.put VRel.nilt)
            · cases hr
          · cases hr
        · cases hr
      · cases hr
    · exact (bad_not h0 hr).elim
  · exact Runs.skipIns hw (hk R _ (Le.refl R) (h.put VRel.nilt))
end
def Then (P : Program) (n : Nat) (K : Store) (fl : Nat) (R : Nat → Nat → Prop) (k : List It) (Q : St → Prop) : Out → Prop
  | .nx cs => ∀ R' st, Le R R' → SRel K fl R' cs st → Runs P n k st Q
  | .ex id cs => ∃ k', popTo id k = some k' ∧ ∀ R' st, Le R R' → SRel K fl R' cs st → Runs P n k' st Q
  | .rt cs => ∀ R' st, Le R R' → SRel K fl R' cs st → Q st
  | .bad => False
theorem Then.le {K : Store} {fl : Nat} {R R' : Nat → Nat → Prop} {k : List It} {Q : St → Prop} {o : Out} (h : Then P n K fl R k Q o) (hle : Le R R') : Then P n K fl R' k Q o := by
  cases o
  case bad => exact h
  case ex => obtain ⟨k', h1, h2⟩ := h; exact ⟨k', h1, fun R'' st h3 h4 => h2 R'' st (hle.trans h3) h4⟩
  all_goals exact fun R'' st h3 h4 => h R'' st (hle.trans h3) h4
theorem ofL_get (i : Nat) : ∀ (l : List V) (k : Nat) (t : Tr V), getP (.tup []) i (Tr.ofL l k t) = if k ≤ i ∧ i < k + l.length then l.getD (i - k) (.tup []) else getP (.tup []) i t
  | [], k, t => by simp [Tr.ofL]; intro h1 h2; omega
  | v :: l, k, t => by
    rw [Tr.ofL, ofL_get i l (k + 1), getP_set]
    simp only [List.length_cons]
    by_cases h1 : i = k
    · subst h1
      rw [if_neg (by omega), if_pos rfl, if_pos (by omega)]
      simp
    · by_cases h2 : k + 1 ≤ i ∧ i < k + 1 + l.length
      · rw [if_pos h2, if_pos (by omega), show i - k = (i - (k + 1)) + 1 by omega]
        simp
      · rw [if_neg h2, if_neg h1, if_neg (by omega)]
theorem resOne_rel {K : Store} {fl : Nat} {R : Nat → Nat → Prop} {cs : CS} {st : St} (h : SRel K fl R cs st) {r : VR} (hok : okRes r = true) {v : V} (hv : resOne ⟨cs.sf, stF cs.σ⟩ r = some v) :
    ∃ v', resOne st r = some v' ∧ VRel R v v' := by
  cases r <;> simp only [resOne, reduceCtorEq, Option.some.injEq] at hv ⊢
  case tmp x => subst hv; exact ⟨_, rfl, ev_rel h.slot hok⟩
  case cell agg sz x => exact loadV_rel h.mem.live (ev_rel h.slot hok) hv
theorem resAll_rel {K : Store} {fl : Nat} {R : Nat → Nat → Prop} {cs : CS} {st : St} (h : SRel K fl R cs st) : ∀ {l : List VR}, l.all okRes = true → ∀ {vs : List V}, resAll ⟨cs.sf, stF cs.σ⟩ l = some vs →
    ∃ vs', resAll st l = some vs' ∧ VRelL R vs vs'
  | [], _, vs, hv => by simp only [resAll, Option.some.injEq] at hv; subst hv; exact ⟨[], rfl, by simp [VRelL]⟩
  | r :: l, hok, vs, hv => by
    simp only [List.all_cons, Bool.and_eq_true] at hok
    simp only [resAll] at hv
    split at hv
    · rename_i v h1
      split at hv
      · rename_i us h2
        simp only [Option.some.injEq] at hv; subst hv
        obtain ⟨v', g1, g2⟩ := resOne_rel h hok.1 h1
        obtain ⟨us', g3, g4⟩ := resAll_rel h hok.2 h2
        exact ⟨v' :: us', by simp [resAll, g1, g3], VRelL.cons_iff.2 ⟨v', us', rfl, g2, g4⟩⟩
      · cases hv
    · cases hv
theorem resV_rel {K : Store} {fl : Nat} {R : Nat → Nat → Prop} {cs : CS} {st : St} (h : SRel K fl R cs st) {l : List VR} (hok : l.all okRes = true) {v : V} (hv : resV ⟨cs.sf, stF cs.σ⟩ l = some v) :
    ∃ v', resV st l = some v' ∧ VRel R v v' := by
  unfold resV at hv
  cases hr : resAll ⟨cs.sf, stF cs.σ⟩ l with
  | none => simp [hr] at hv
  | some vs =>
    obtain ⟨vs', g1, g2⟩ := resAll_rel h hok hr
    rw [hr] at hv
    unfold resV
    rw [g1]
    match vs, hv, g2 with
    | [], hv, g2 =>
      rw [VRelL.nil_iff] at g2; subst g2
      simp only [Option.some.injEq] at hv; subst hv
      exact ⟨_, rfl, by simp [VRel, VRelL]⟩
    | [u], hv, g2 =>
      obtain ⟨x, xs, rfl, g3, g4⟩ := VRelL.cons_iff.1 g2
      rw [VRelL.nil_iff] at g4; subst g4
      simp only [Option.some.injEq] at hv; subst hv
      exact ⟨_, rfl, g3⟩
    | u1 :: u2 :: us, hv, g2 =>
      obtain ⟨x, xs, rfl, g3, g4⟩ := VRelL.cons_iff.1 g2
      obtain ⟨y, ys, rfl, g5, g6⟩ := VRelL.cons_iff.1 g4
      simp only [Option.some.injEq] at hv; subst hv
      exact ⟨_, rfl, by simp only [VRel]; exact ⟨_, rfl, g2⟩⟩
end Go.Vc
namespace Go.Vc
theorem eqQ_iff {a b : Int} (h : eqQ a b = true) : a = b := by
  cases a <;> cases b <;> simp only [eqQ, Bool.false_eq_true] at h
  · rw [Nat.eq_of_beq_eq_true h]
  · rw [Nat.eq_of_beq_eq_true h]
end Go.Vc
namespace Go.Vc
variable {P : Program} {n : Nat} {st : St} {Q : St → Prop} {k : List It} {μ : Mu} {w w' : World}
abbrev gh (o : Obj) (env : List V := []) : Ob := ⟨0, 0, .obj o :: env⟩
theorem Sat.newG {w0 : World} {ow0 : Nat → Prop} {σ : Store} (h : Sat w0 ow0 μ σ w) (o : Obj) (env : List V) (he : RepAll μ (Owned μ σ) w env (tmpsOf o)) :
    ∃ id, σ id = none ∧ ∃ μ' : Mu, μ' id = .lies w.heap.size 0 0 ∧ MuLe μ μ' ∧ Sat w0 ow0 μ' (upd σ id (gh o env)) (w.alloc o) ∧ Keeps (Owned μ σ) (Owned μ' (upd σ id (gh o env))) w (w.alloc o) := by
  obtain ⟨id, hid, hσ, hfin⟩ := h.unborn
  have hle : MuLe μ (fun k => if k = id then .lies w.heap.size 0 0 else μ k) := fun k hk => by
    have : k ≠ id := fun e' => hk (e' ▸ hid)
    simp [this]
  refine ⟨id, hσ, fun k => if k = id then .lies w.heap.size 0 0 else μ k, by simp, hle, ?_⟩
  refine h.put (row := none) (World.grownBy_alloc w o none) (by simp) hle (hfin _) id (gh o env) (fun o' ho => ?_) (fun i o' hi ho => ?_) (fun b' sz' cap' hb' => ?_) (fun hk => ?_)
  · simp [upd] at ho; exact ho.symm
  · simp only [upd, if_neg hi] at ho
    exact ⟨ho, by simp⟩
  · simp only [if_true, Pl.lies.injEq] at hb'
    exact .inr (by omega)
  · simp only [if_true]
    exact .inr ⟨rfl, rfl, o, env, rfl, World.alloc_heap_new w o, RepAll.mono hle hk (by simp) _ _ he⟩
theorem Sat.setG {w0 : World} {ow0 : Nat → Prop} {σ : Store} (h : Sat w0 ow0 μ σ w) {id b cap : Nat} {o : Ob} (ho : σ id = some o) (hid : μ id = .lies b 0 cap) (o' : Obj) (env : List V) (he : RepAll μ (Owned μ σ) w env (tmpsOf o')) :
    Sat w0 ow0 μ (upd σ id (gh o' env)) (w.putObj b o') ∧ Keeps (Owned μ σ) (Owned μ (upd σ id (gh o' env))) w (w.putObj b o') := by
  have hlt : b < w.heap.size := Owned.lt h ⟨id, o, 0, cap, ho, hid⟩
  refine h.put (grownBy_putObj' w b o') (fun b' hb' => by cases hb'; exact ⟨id, o, 0, cap, ho, hid⟩) (MuLe.refl _) h.fin id (gh o' env) (fun x hx' => by simp [upd] at hx'; exact hx'.symm)
    (fun i x hi hx' => ?_) (fun b' sz' cap' hb' => ?_) (fun hk => ?_)
  · simp only [upd, if_neg hi] at hx'
    refine ⟨hx', fun b' sz' cap' h4 h5 => hi ?_⟩
    cases h5
    exact h.inj i id x o _ _ _ _ _ hx' ho h4 hid
  · rw [hid] at hb'; cases hb'; exact .inl rfl
  · rw [hid]
    exact .inr ⟨rfl, rfl, o', env, rfl, World.putObj_heap_same hlt, RepAll.mono (MuLe.refl _) hk (by simp) _ _ he⟩
theorem Sat.getG {w0 : World} {ow0 : Nat → Prop} {σ : Store} (h : Sat w0 ow0 μ σ w) {id b cap : Nat} {o : Obj} {env : List V} (ho : σ id = some (gh o env)) (hid : μ id = .lies b 0 cap) : w.heap[b]? = some o ∧ RepAll μ (Owned μ σ) w env (tmpsOf o) := by
  have := h.obj id _ ho
  rw [hid] at this
  rcases this with ⟨_, _, _, h1, _⟩ | ⟨_, _, ob, env', h1, h2, h3⟩
  · omega
  · simp only [List.cons.injEq, V.obj.injEq] at h1
    obtain ⟨rfl, rfl⟩ := h1; exact ⟨h2, h3⟩
theorem cop_rngS {o : Op} {xv : VX} (h : cop P n o = .rngS false xv) : ∃ t x, o = .range t x ∧ P.underlying t = some .string ∧ cx n x = xv := by
  cases o
  case range t x =>
    simp only [cop] at h
    split at h
    · rename_i ht; simp only [VOp.rngS.injEq, true_and] at h; exact ⟨t, x, rfl, ht, h⟩
    · cases h
  case call c =>
    obtain ⟨callee, args, argTypes⟩ := c
    cases callee
    case builtin b => cases b <;> simp only [cop, nilB] at h <;> (repeat' split at h) <;> cases h
    all_goals (simp only [cop, nilB] at h; cases h)
  case unOp op t x => cases op <;> simp only [cop, nilB] at h <;> cases h
  case makeFunc f a b => cases f <;> simp only [cop, nilB] at h <;> (repeat' split at h) <;> cases h
  all_goals (simp only [cop, nilB] at h; (repeat' split at h) <;> cases h)
theorem cop_nxtS {o : Op} {xv : VX} (h : cop P n o = .nxtS xv) : ∃ x, o = .next x true ∧ cx n x = xv := by
  cases o
  case next x b =>
    simp only [cop] at h
    split at h
    · rename_i hb; subst hb; simp only [VOp.nxtS.injEq] at h; exact ⟨x, rfl, h⟩
    · cases h
  case call c =>
    obtain ⟨callee, args, argTypes⟩ := c
    cases callee
    case builtin b => cases b <;> simp only [cop, nilB] at h <;> (repeat' split at h) <;> cases h
    all_goals (simp only [cop, nilB] at h; cases h)
  case unOp op t x => cases op <;> simp only [cop, nilB] at h <;> cases h
  case makeFunc f a b => cases f <;> simp only [cop, nilB] at h <;> (repeat' split at h) <;> cases h
  all_goals (simp only [cop, nilB] at h; (repeat' split at h) <;> cases h)
theorem Runs.rngS {i : VIns} {l : List VIns} {xv : VX} (hw : wantV st.s i.g = some true) (ho : i.op = .rngS false xv) {s : List UInt8} (hx : xv.ev st.s = .str s)
    (h : ∀ id, st.σ id = none → Runs P n (.ops l :: k) ⟨putO st.s i.dst (.gp id), upd st.σ id (gh (.stringIter ⟨s.toArray⟩ 0))⟩ Q) : Runs P n (.ops (i :: l) :: k) st Q := by
  refine Runs.ins (by rw [ho]; simp) hw fun F hn μ a w o all hi hs next Q' hnext => ?_
  subst hn
  obtain ⟨hop, hd⟩ := cins_op hi
  rw [ho] at hop
  obtain ⟨t, x, h1, h2, rfl⟩ := cop_rngS hop
  have hr := rep_cx hs x
  rw [hx] at hr
  simp only [Rep] at hr
  obtain ⟨id, hid, μ', g1, g2, g3, g4⟩ := hs.sat.newG (.stringIter ⟨s.toArray⟩ 0) [] (by simp [RepAll, tmpsOf])
  unfold Oper.wp
  have hrun : (execOp a.eval o).run P w = .ok (.value (.pointer (some ⟨w.heap.size, 0, none⟩))) (w.alloc (.stringIter ⟨s.toArray⟩ 0)) := by
    unfold execOp
    rw [h1]
    simp only [hr, Sem.run_bind, run_range_string w t ⟨s.toArray⟩ h2, Result.andThen_ok, Sem.run_pure]
    rfl
  rw [hrun]
  refine hnext _ _ _ ⟨μ', ?_⟩ (h id hid)
  rw [← hd]
  exact hs.step g3 g2 g4 (by simp) (by simp [Rep, g1])
theorem Runs.nxtS {i : VIns} {l : List VIns} {xv : VX} (hw : wantV st.s i.g = some true) (ho : i.op = .nxtS xv) {id : Nat} (hx : xv.ev st.s = .gp id) {s : List UInt8} {pos : Nat}
    (hσ : st.σ id = some (gh (.stringIter ⟨s.toArray⟩ pos)))
    (h1 : pos < s.length → Runs P n (.ops l :: k) ⟨putO st.s i.dst (.tup [.bool true, .int .i64 pos, .int .i32 (Utf8.decode ⟨s.toArray⟩ pos).1]),
      upd st.σ id (gh (.stringIter ⟨s.toArray⟩ (pos + (Utf8.decode ⟨s.toArray⟩ pos).2)))⟩ Q)
    (h2 : ¬ pos < s.length → Runs P n (.ops l :: k) ⟨putO st.s i.dst (.tup [.bool false]), st.σ⟩ Q) : Runs P n (.ops (i :: l) :: k) st Q := by
  refine Runs.ins (by rw [ho]; simp) hw fun F hn μ a w o all hi hs next Q' hnext => ?_
  subst hn
  obtain ⟨hop, hd⟩ := cins_op hi
  rw [ho] at hop
  obtain ⟨x, h3, rfl⟩ := cop_nxtS hop
  have hr := rep_cx hs x
  rw [hx] at hr
  simp only [Rep] at hr
  split at hr
  · rename_i b cap hid
    have hob := (hs.sat.getG hσ hid).1
    have hsz : (ByteArray.mk s.toArray).size = s.length := by simp [ByteArray.size]
    unfold Oper.wp
    by_cases hp : pos < s.length
    · have hrun : (execOp a.eval o).run P w = .ok (.value (.tuple #[.bool true, .int .i64 pos, .int .i32 (Utf8.decode ⟨s.toArray⟩ pos).1]))
          (w.putObj b (.stringIter ⟨s.toArray⟩ (pos + (Utf8.decode ⟨s.toArray⟩ pos).2))) := by
        unfold execOp
        rw [h3]
        simp [hr, Instr.next, getObj, setObj, Sem.run, hob, hsz, hp, World.putObj, goInt]
      rw [hrun]
      have hset := hs.sat.setG hσ hid (.stringIter ⟨s.toArray⟩ (pos + (Utf8.decode ⟨s.toArray⟩ pos).2)) [] (by simp [RepAll, tmpsOf])
      refine hnext _ _ _ ⟨μ, ?_⟩ (h1 hp)
      rw [← hd]
      exact hs.step hset.1 (MuLe.refl _) hset.2 (by simp) (by simp only [Rep]; exact ⟨_, rfl, by simp [RepAll, Rep]⟩)
    · have hrun : (execOp a.eval o).run P w = .ok (.value (.tuple #[.bool false])) w := by
        unfold execOp
        rw [h3]
        simp [hr, Instr.next, getObj, Sem.run, hob, hsz, hp]
      rw [hrun]
      refine hnext _ _ _ ⟨μ, ?_⟩ (h2 hp)
      rw [← hd]
      exact hs.pure (by simp only [Rep]; exact ⟨_, rfl, by simp [RepAll, Rep]⟩)
  · exact hr.elim
end Go.Vc
namespace Go.Vc
variable {P : Program} {n : Nat} {st : St} {Q : St → Prop} {k : List It} {μ : Mu} {w w' : World}
theorem Sat.compose {w0 : World} {ow0 : Nat → Prop} {μ μ' : Mu} {σ σ' : Store} (h0 : Sat w0 ow0 μ σ w) (hs' : Sat w (Owned μ σ) μ' σ' w') :
    Sat w0 ow0 μ' σ' w' ∧ Keeps (Owned μ σ) (Owned μ' σ') w w' := by
  have hkeep : Keeps (Owned μ σ) (Owned μ' σ') w w' := fun b hb hn => ⟨fun ho => hn (hs'.fresh b ho hb), hs'.same b hb hn⟩
  refine ⟨⟨Nat.le_trans h0.size hs'.size, hs'.os.trans h0.os, hs'.tape.trans h0.tape, hs'.output.trans h0.output, ?_, hs'.fin, hs'.inj, hs'.obj, ?_, h0.glob⟩, hkeep⟩
  · intro b hb hn
    have h1 : ¬ Owned μ σ b := fun ho => hn (h0.fresh b ho hb)
    exact (hs'.same b (Nat.lt_of_lt_of_le hb h0.size) h1).trans (h0.same b hb hn)
  · intro b hb hlt
    exact h0.fresh b (hs'.fresh b hb (Nat.lt_of_lt_of_le hlt h0.size)) hlt
theorem Sat.here {w0 : World} {ow0 : Nat → Prop} {σ : Store} (h : Sat w0 ow0 μ σ w) : Sat w (Owned μ σ) μ σ w :=
  ⟨Nat.le_refl _, rfl, rfl, rfl, fun _ _ _ => rfl, h.fin, h.inj, h.obj, fun b hb _ => hb, h.globHere⟩
def YC (P : Program) (idl : Nat) (x : List V) (σ : Store) (Post : Bool → Store → Prop) : Prop :=
  ∀ μ w vals l c, μ idl = .lies l 0 c → Sat w (Owned μ σ) μ σ w → RepAll μ (Owned μ σ) w x vals →
    YieldAt Fence.wide 0 P l vals.toArray w fun e w' => ∃ b σ' μ', e = .returned (.bool b) ∧ Post b σ' ∧ MuLe μ μ' ∧ Sat w (Owned μ σ) μ' σ' w'
theorem roundIn_fence {F : Fr} {m m' : Nat} {l : Nat} {f : FuncId} {tmps : Array Value} {assign body : Code} {R : Ending → World → Prop}
    (h : RoundIn Fence.wide m P l f tmps assign body w R) : RoundIn F.fence m' P l f tmps assign body w R :=
  ⟨trivial, fun c cs _ => h.2 c cs (room_wide _)⟩
theorem Runs.ycall {i : VIns} {l : List VIns} {fx : VX} {xs : List VX} (hw : wantV st.s i.g = some true) (ho : i.op = .call fx xs) {idl : Nat} (hf : fx.ev st.s = .yl idl)
    {Post : Bool → Store → Prop} (hc : YC P idl (xs.map (·.ev st.s)) st.σ Post)
    (h : ∀ b σ', Post b σ' → Runs P n (.ops l :: k) ⟨putO st.s i.dst (.bool b), σ'⟩ Q) : Runs P n (.ops (i :: l) :: k) st Q := by
  refine Runs.insIn hw fun F hn μ a w o all hi hs next Q' hnext => ?_
  subst hn
  obtain ⟨hop, hd⟩ := cins_op hi
  rw [ho] at hop
  obtain ⟨f0, args, argTypes, g1, rfl, rfl⟩ := cop_call hop
  have hfr := rep_cx hs f0
  rw [hf] at hfr
  simp only [Rep] at hfr
  split at hfr
  · rename_i lb c hid
    have hargs := rep_cxs hs args.toList
    obtain ⟨fn, tmps, assign, body, hy, hR⟩ := hc μ w _ lb c hid hs.sat.here hargs
    have hrun : (execOp a.eval o).run P w = .ok (.round lb fn tmps assign body) w := by
      unfold execOp
      rw [g1]
      simp only [resolve, hfr, Deferred.ofValue, Sem.run_bind, Sem.run_pure, Result.andThen_ok, invoke]
      rw [← hy]
      congr 2
      apply Array.ext'
      simp
    refine ⟨fun _ _ => trivial, ?_⟩
    rw [Oper.semAt_eq _ _ _ (by rw [g1]; intro c e; cases e), hrun]
    refine ⟨fence_depth F, roundIn_fence (hR.mono ?_)⟩
    rintro e w' ⟨b, σ', μ', rfl, hp, hle, hs'⟩
    obtain ⟨h1, h2⟩ := hs.sat.compose hs'
    refine hnext _ _ _ ⟨μ', ?_⟩ (h b σ' hp)
    rw [← hd]
    exact hs.step h1 hle h2 hs'.size (by simp [Rep])
  · exact hfr.elim
def Beside (σJ σ σJ' σ' : Store) : Prop := SubStore σJ' σ' ∧ ∀ id o, σJ id = none → σ id = some o → σ' id = some o ∧ σJ' id = none
theorem Beside.refl {σJ σ : Store} (h : SubStore σJ σ) : Beside σJ σ σJ σ := ⟨h, fun _ _ h1 h2 => ⟨h2, h1⟩⟩
theorem Beside.set {σJ σ σJ' σ' : Store} (h : Beside σJ σ σJ' σ') {id : Nat} {o o' : Ob} (hid : σJ' id = some o) : Beside σJ σ (upd σJ' id o') (upd σ' id o') :=
  ⟨h.1.upd2, fun i x h1 h2 => by
    obtain ⟨h3, h4⟩ := h.2 i x h1 h2
    have : i ≠ id := fun e => by rw [e, hid] at h4; cases h4
    simp [Vc.upd, this, h3, h4]⟩
theorem Beside.new {σJ σ σJ' σ' : Store} (h : Beside σJ σ σJ' σ') {id : Nat} {o : Ob} (hid : σ' id = none) : Beside σJ σ (upd σJ' id o) (upd σ' id o) :=
  ⟨h.1.upd2, fun i x h1 h2 => by
    obtain ⟨h3, h4⟩ := h.2 i x h1 h2
    have : i ≠ id := fun e => by rw [e, hid] at h3; cases h3
    simp [Vc.upd, this, h3, h4]⟩
def Iter (P : Program) (g : FuncId) (caps : List V) (xs : List (List V)) : Prop :=
  callable P g = true ∧ ∀ (idl : Nat) (J Jx : List (List V) → Store → Prop) (σ0 : Store),
    (∀ pre x post σJ σ, xs = pre ++ x :: post → J pre σJ → SubStore σJ σ →
      YC P idl x σ fun b σ' => ∃ σJ', Beside σJ σ σJ' σ' ∧ ((b = true ∧ J (pre ++ [x]) σJ') ∨ (b = false ∧ Jx (pre ++ [x]) σJ'))) →
    J [] σ0 → PCall P g (.yl idl :: caps) σ0 fun _ σ' => J xs σ' ∨ ∃ pre, pre <+: xs ∧ Jx pre σ'
end Go.Vc
namespace Go.Vc
variable {P : Program} {n : Nat} {st : St} {Q : St → Prop} {k : List It} {μ : Mu} {w w' : World}
def putL (s : Nat → V) : List Nat → List V → Nat → V
  | p :: ps, x :: xs => putL (fun i => if i = p then x else s i) ps xs
  | _, _ => s
def exK : List (Nat × (St → Prop)) → List It
  | [] => []
  | (id, I) :: l => .inBlock id :: .stop I :: exK l
theorem del_sub {σ σ' : Store} {id : Nat} (h : SubStore σ σ') : SubStore (del σ id) (del σ' id) := fun i o e => by
  unfold del at e ⊢
  split at e
  · cases e
  · rename_i hi; rw [if_neg hi]; exact h i o e
theorem Sat.more {w0 : World} {ow0 : Nat → Prop} {σ : Store} (h : Sat w0 ow0 μ σ w) (o : Obj) : Sat w0 ow0 μ σ (w.alloc o) ∧ Keeps (Owned μ σ) (Owned μ σ) w (w.alloc o) := by
  have hsame : ∀ b, b < w.heap.size → (w.alloc o).heap[b]? = w.heap[b]? := fun b hb => Go.RowKit.Below.heap_alloc w o b hb
  have hk : Keeps (Owned μ σ) (Owned μ σ) w (w.alloc o) := fun b hb hn => ⟨hn, hsame b hb⟩
  refine ⟨⟨by have := h.size; simp; omega, h.os, h.tape, h.output, fun b hb hn => (hsame b (Nat.lt_of_lt_of_le hb h.size)).trans (h.same b hb hn), h.fin, h.inj, fun id ob ho => ?_, h.fresh, h.glob⟩, hk⟩
  exact (h.obj id ob ho).mono (MuLe.refl μ) hk (by simp) fun b sz cap hp => hsame b (Owned.lt h ⟨id, ob, sz, cap, ho, hp⟩)
theorem SatM.enter {F : Fr} {a : Act} (hs : SatM F μ st a w) (fn : FuncId) (ps : Array Tmp) (assign body : Code) :
    ∃ mark W0 D, SatM F μ st { a with defers := mark ++ a.defers } W0 ∧ (Instr.enterLoop fn a.tmps ps assign body F.fence.round).run P w =
      .ok (W0.heap.size, mark) (W0.alloc (.loop { state := .ready, pending := none, fn, tmps := a.tmps, params := ps, assign, body, defers := D })) := by
  cases hrd : F.rd with
  | some lr =>
    obtain ⟨l0, r0⟩ := lr
    obtain ⟨h1, _⟩ := hs.book.rnd l0 r0 hrd
    refine ⟨[], w, r0.defers, hs, ?_⟩
    have : F.fence.round = some l0 := by simp [Fr.fence, hrd]
    rw [this]
    exact run_enterLoop_inner h1 fn a.tmps ps assign body
  | none =>
    have : F.fence.round = none := by simp [Fr.fence, hrd]
    rw [this]
    refine ⟨[{ target := .collected w.heap.size, args := #[] }], w.alloc (.deferred (some [])), w.heap.size, ?_, ?_⟩
    · obtain ⟨h1, hk⟩ := hs.sat.more (.deferred (some []))
      have hb := hs.book.keep hk
      refine ⟨h1, hs.le, hs.size, ⟨hb.rnd, ?_⟩, fun i hi => Rep.mono (MuLe.refl μ) hk (by simp) _ _ (hs.slot i hi)⟩
      obtain ⟨Ds, g1, g2, g3⟩ := hb.marks
      obtain ⟨Ds', g1', g2', g3'⟩ := hs.book.marks
      refine ⟨w.heap.size :: Ds', by simp [g1'], ?_, ?_⟩
      · refine List.nodup_cons.2 ⟨fun hin => ?_, g2'⟩
        have := (Array.getElem?_eq_some_iff.1 (g3' _ hin).2.1).1
        omega
      · intro D hD
        simp only [List.mem_cons] at hD
        rcases hD with rfl | hD
        · refine ⟨hs.sat.size, World.alloc_heap_new w _, fun ho => ?_⟩
          have := Owned.lt hs.sat ho
          omega
        · obtain ⟨q1, q2, q3⟩ := g3' D hD
          have hlt := (Array.getElem?_eq_some_iff.1 q2).1
          exact ⟨q1, (hk D hlt q3).2.trans q2, q3⟩
    · rw [run_enterLoop_outer]
      simp
theorem foldl_get (ps : List Nat) : ∀ (xs : List Value) (t : Array Value) (vs : List V) (s : Nat → V) {ow : Nat → Prop} (m : Nat), t.size = m → RepAll μ ow w vs xs → vs.length = ps.length →
    (∀ i, i < m → Rep μ ow w (s i) (t.getD i undef)) →
    ((ps.zip xs).foldl (fun t (p, v) => t.setIfInBounds p v) t).size = m ∧ ∀ i, i < m → Rep μ ow w (putL s ps vs i) (((ps.zip xs).foldl (fun t (p, v) => t.setIfInBounds p v) t).getD i undef) := by
  induction ps with
  | nil => intro xs t vs s ow m ht _ _ hi; exact ⟨by simpa using ht, by simpa [putL] using hi⟩
  | cons p ps ih =>
    intro xs t vs s ow m ht hv hl hi
    cases vs with
    | nil => simp at hl
    | cons v vs =>
      simp only [RepAll] at hv
      obtain ⟨x, xs', rfl, h1, h2⟩ := hv
      simp only [List.zip_cons_cons, List.foldl_cons, putL]
      refine ih xs' (t.setIfInBounds p x) vs _ m (by simp [ht]) h2 (by simpa using hl) fun i hlt => ?_
      by_cases hip : i = p
      · subst hip
        rw [if_pos rfl, Array.getD_eq_getD_getElem?, Array.getElem?_setIfInBounds_self_of_lt (by omega)]
        exact h1
      · rw [if_neg hip, Array.getD_eq_getD_getElem?, Array.getElem?_setIfInBounds_ne (fun e => hip e.symm), ← Array.getD_eq_getD_getElem?]
        exact hi i hlt
end Go.Vc
namespace Go.Vc
variable {P : Program} {n : Nat} {st : St} {Q : St → Prop} {k : List It} {μ : Mu} {w w' : World}
theorem poke_cells {b : Nat} {o o' : Obj} (h : w.heap[b]? = some o) (hc : ∀ off x, w.cell? ⟨b, off, none⟩ ≠ some x) :
    (∀ b', b' ≠ b → (w.putObj b o').heap[b']? = w.heap[b']?) ∧ ∀ (ow : Nat → Prop), KeepsC ow ow w (w.putObj b o') := by
  have hne : ∀ b', b' ≠ b → (w.putObj b o').heap[b']? = w.heap[b']? := fun b' hb => World.putObj_heap_other hb
  refine ⟨hne, fun ow b' _ hn => ⟨hn, fun off x hx => ?_⟩⟩
  by_cases hb : b' = b
  · subst hb; exact absurd hx (hc off x)
  · exact cells_of_heap (hne b' hb) off x hx
theorem no_cells_loop {b : Nat} {r : Loop} (h : w.heap[b]? = some (.loop r)) : ∀ off x, w.cell? ⟨b, off, none⟩ ≠ some x := fun off x => by simp [World.cell?, h]
theorem SatM.poke {F F' : Fr} {a : Act} {l : Nat} {r r' : Loop} (hs : SatM F μ st a w) (hF : F.rd = some (l, r)) (hF' : F' = { F with rd := some (l, r') }) (hl : l < F.w0.heap.size → F.ow0 l) :
    SatM F' μ st a (w.putObj l (.loop r')) := by
  subst hF'
  obtain ⟨h1, h2⟩ := hs.book.rnd l r hF
  obtain ⟨hne, hk⟩ := poke_cells (o' := .loop r') h1 (no_cells_loop h1)
  have hk := hk (Owned μ st.σ)
  have hz : w.heap.size ≤ (w.putObj l (.loop r')).heap.size := by simp
  have hlt := (Array.getElem?_eq_some_iff.1 h1).1
  refine ⟨⟨by simpa using hs.sat.size, hs.sat.os, hs.sat.tape, hs.sat.output, fun b hb hn => ?_, hs.sat.fin, hs.sat.inj, fun id o ho => ?_, hs.sat.fresh, hs.sat.glob⟩, hs.le, hs.size, ⟨fun l' r'' e => ?_, ?_⟩, fun i hi => Rep.monoC (MuLe.refl μ) hk hz _ _ (hs.slot i hi)⟩
  · by_cases hb' : b = l
    · subst hb'; exact absurd (hl hb) hn
    · exact (hne b hb').trans (hs.sat.same b hb hn)
  · refine (hs.sat.obj id o ho).monoC (MuLe.refl μ) hk hz fun b sz cap hp => hne b ?_
    rintro rfl
    exact h2 ⟨id, o, sz, cap, ho, hp⟩
  · simp only [Option.some.injEq, Prod.mk.injEq] at e
    obtain ⟨rfl, rfl⟩ := e
    exact ⟨World.putObj_heap_same hlt, h2⟩
  · obtain ⟨Ds, g1, g2, g3⟩ := hs.book.marks
    refine ⟨Ds, g1, g2, fun D hD => ?_⟩
    obtain ⟨q1, q2, q3⟩ := g3 D hD
    refine ⟨q1, (hne D ?_).trans q2, q3⟩
    rintro rfl
    rw [h1] at q2; cases q2
theorem Sat.regain {w0 : World} {ow0 : Nat → Prop} {σ : Store} (h : Sat w0 ow0 μ σ w) {idl l c : Nat} (hσ : σ idl = none) (hid : μ idl = .lies l 0 c) (hno : ¬ Owned μ σ l) {r : Loop} (hr : w.heap[l]? = some (.loop r))
    (hl : l < w0.heap.size → ow0 l) (o : Obj) (env : List V) (he : RepAll μ (Owned μ σ) w env (tmpsOf o)) : Sat w0 ow0 μ (upd σ idl (gh o env)) (w.putObj l o) := by
  obtain ⟨hne, _⟩ := poke_cells (o' := o) hr (no_cells_loop hr)
  have hlt := (Array.getElem?_eq_some_iff.1 hr).1
  have hz : w.heap.size ≤ (w.putObj l o).heap.size := by simp
  have hown : ∀ b, Owned μ (upd σ idl (gh o env)) b → Owned μ σ b ∨ b = l := by
    rintro b ⟨id, ob, sz, cap, h1, h2⟩
    by_cases e : id = idl
    · subst e; rw [hid] at h2; cases h2; exact .inr rfl
    · rw [upd_ne e] at h1; exact .inl ⟨id, ob, sz, cap, h1, h2⟩
  have hk : KeepsC (Owned μ σ) (Owned μ (upd σ idl (gh o env))) w (w.putObj l o) := fun b ⟨off, x, hx⟩ hn => by
    have hbl : b ≠ l := by rintro rfl; exact no_cells_loop hr off x hx
    exact ⟨fun ho => (hown b ho).elim hn hbl, cells_of_heap (hne b hbl)⟩
  refine ⟨by simpa using h.size, h.os, h.tape, h.output, fun b hb hn => ?_, h.fin, ?_, ?_, ?_, h.glob⟩
  · by_cases hb' : b = l
    · subst hb'; exact absurd (hl hb) hn
    · exact (hne b hb').trans (h.same b hb hn)
  · intro id id' ob ob' b sz cap sz' cap' h1 h2 h3 h4
    by_cases e : id = idl <;> by_cases e' : id' = idl
    · rw [e, e']
    · exfalso
      subst e; rw [hid] at h3; cases h3
      rw [upd_ne e'] at h2
      exact hno ⟨id', ob', sz', cap', h2, h4⟩
    · exfalso
      subst e'; rw [hid] at h4; cases h4
      rw [upd_ne e] at h1
      exact hno ⟨id, ob, sz, cap, h1, h3⟩
    · rw [upd_ne e] at h1; rw [upd_ne e'] at h2
      exact h.inj id id' ob ob' b sz cap sz' cap' h1 h2 h3 h4
  · intro id ob ho
    by_cases e : id = idl
    · subst e
      rw [upd_same] at ho; cases ho
      rw [hid]
      exact .inr ⟨rfl, rfl, o, env, rfl, World.putObj_heap_same hlt, RepAll.monoC (MuLe.refl μ) hk hz _ _ he⟩
    · rw [upd_ne e] at ho
      refine (h.obj id ob ho).monoC (MuLe.refl μ) hk hz fun b sz cap hp => hne b ?_
      rintro rfl
      exact hno ⟨id, ob, sz, cap, ho, hp⟩
  · intro b hb hlt'
    rcases hown b hb with h1 | h1
    · exact h.fresh b h1 hlt'
    · subst h1; exact hl hlt'
end Go.Vc
namespace Go.Vc
variable {P : Program} {n : Nat} {st : St} {Q : St → Prop} {k : List It} {μ : Mu} {w w' : World}
def exKI : List (Nat × (St → Prop)) → List KI
  | [] => []
  | (id, I) :: l => .inBlock id :: .stop I :: exKI l
theorem exKI_it : ∀ (l : List (Nat × (St → Prop))), (exKI l).map (KI.it P n) = exK l
  | [] => rfl
  | (id, I) :: l => by simp [exKI, exK, KI.it, exKI_it l]
theorem kont_exits {F : Fr} {e : Exit} {a : Act} (he : e ≠ .normal) : ∀ (l : List (Nat × (St → Prop))), Kont P F Q (exKI l) e a w →
    (e = .ret ∧ ∃ st, Q st ∧ SatF F st a w) ∨ ∃ id I, (id, I) ∈ l ∧ e = .exit id ∧ ∃ st, I st ∧ SatF F st a w
  | [], h => .inl ⟨h.1.resolve_left he, h.2⟩
  | (id, I) :: l, h => by
    have h : Exit.inBlock id (Kont P F Q (.stop I :: exKI l)) e a w := h
    have up : Kont P F Q (exKI l) e a w → _ := kont_exits he l
    have go : Kont P F Q (exKI l) e a w → (e = .ret ∧ ∃ st, Q st ∧ SatF F st a w) ∨ ∃ id' I', (id', I') ∈ (id, I) :: l ∧ e = .exit id' ∧ ∃ st, I' st ∧ SatF F st a w := fun h => by
      rcases up h with h | ⟨i, I', h1, h2⟩
      · exact .inl h
      · exact .inr ⟨i, I', by simp [h1], h2⟩
    cases e with
    | normal => exact absurd rfl he
    | exit j =>
      simp only [Exit.inBlock] at h
      by_cases hj : j = id
      · rw [if_pos hj] at h
        exact .inr ⟨id, I, by simp, by rw [hj], h⟩
      · rw [if_neg hj] at h
        exact go h
    | _ => exact go h
def jumpOf : Option Nat → Code
  | none => .ret
  | some id => .exit id
theorem round_YC {rec : Loop} (hready : rec.state = .ready) (hpend : rec.pending = none) (htm : rec.tmps.size = n) {s : Nat → V} {idl : Nat} {x : List V} {σJ σ : Store}
    (hx : x.length = rec.params.toList.length) (hrow : σJ idl = some (gh (.loop rec) ((List.range n).map s))) (hsub : SubStore σJ σ)
    (Jn : Store → Prop) (exits : List Nat) (Jx : Option Nat → Store → Prop)
    (hb : Runs P n [.code (ccode P n rec.assign), .stop fun st1 => Runs P n (.code (ccode P n rec.body) :: .stop (fun st2 => ∃ σ2, Beside (del σJ idl) (del σ idl) σ2 st2.σ ∧ Jn σ2) ::
      exK (exits.map fun id => (id, fun st2 => ∃ σ2, Beside (del σJ idl) (del σ idl) σ2 st2.σ ∧ Jx (some id) σ2))) st1 (fun st2 => ∃ σ2, Beside (del σJ idl) (del σ idl) σ2 st2.σ ∧ Jx none σ2)]
      ⟨putL s rec.params.toList x, del σ idl⟩ (fun _ => False)) :
    YC P idl x σ fun b σ' => ∃ σJ', Beside σJ σ σJ' σ' ∧ ((b = true ∧ σJ' idl = some (gh (.loop rec) ((List.range n).map s)) ∧ Jn (del σJ' idl)) ∨
      (b = false ∧ ∃ e : Option Nat, σJ' idl = some (gh (.loop { rec with state := .done, pending := some (jumpOf e) }) ((List.range n).map s)) ∧ Jx e (del σJ' idl) ∧ ∀ id, e = some id → id ∈ exits)) := by
  intro μ3 w3 vals l c hid hsat hrep
  have hσ := hsub _ _ hrow
  obtain ⟨hl, henv⟩ := hsat.getG hσ hid
  have hvl : vals.length = rec.params.toList.length := by rw [← hx]; exact hrep.length
  have hy := run_yield (P := P) (args := vals.toArray) hl (by simpa using hvl)
  have hno : ¬ Owned μ3 (del σ idl) l := by
    rintro ⟨id, o, sz, cap, h1, h2⟩
    have := hsat.inj id idl o _ l sz cap 0 c (SubStore.of_del σ idl id o h1) hσ h2 hid
    subst this
    simp [del] at h1
  have hks : Keeps (Owned μ3 σ) (Owned μ3 (del σ idl)) w3 w3 := Keeps.sub w3 (SubStore.of_del σ idl)
  have hslots : ∀ i, i < n → Rep μ3 (Owned μ3 (del σ idl)) w3 (s i) (rec.tmps.getD i undef) := fun i hi => by
    have hv : ((List.range n).map s)[i]? = some (s i) := by simp [hi]
    obtain ⟨y, h1, h2⟩ := henv.get hv
    have : rec.tmps.getD i undef = y := by
      simp only [tmpsOf] at h1
      rw [Array.getD_eq_getD_getElem?, ← Array.getElem?_toList, h1]; rfl
    rw [this]
    exact Rep.mono (MuLe.refl _) hks (Nat.le_refl _) _ _ h2
  obtain ⟨hg1, hg2⟩ := foldl_get rec.params.toList vals rec.tmps x s n htm (RepAll.mono (MuLe.refl _) hks (Nat.le_refl _) _ _ hrep) hx hslots
  have hzip : (rec.params.zip vals.toArray).foldl (fun tmps (t, a) => tmps.setIfInBounds t a) rec.tmps = (rec.params.toList.zip vals).foldl (fun t (p, v) => t.setIfInBounds p v) rec.tmps := by
    rw [← Array.foldl_toList, Array.toList_zip]
  rw [hzip] at hy
  refine ⟨rec.fn, _, rec.assign, rec.body, hy, roundIn_of_wpIn (F := Fence.wide) trivial ?_⟩
  have hs1 : SatM ⟨w3, Owned μ3 σ, μ3, n, some (l, rec)⟩ μ3 ⟨putL s rec.params.toList x, del σ idl⟩ { tmps := (rec.params.toList.zip vals).foldl (fun t (p, v) => t.setIfInBounds p v) rec.tmps, defers := [] } w3 := by
    refine ⟨hsat.drop (SubStore.of_del σ idl), MuLe.refl _, hg1, ⟨fun l' r' e => ?_, [], rfl, .nil, by simp⟩, hg2⟩
    simp only [Option.some.injEq, Prod.mk.injEq] at e
    obtain ⟨rfl, rfl⟩ := e
    exact ⟨hl, hno⟩
  have h1 := hb ⟨w3, Owned μ3 σ, μ3, n, some (l, rec)⟩ rfl [.code rec.assign, .stop _] rfl _ w3 ⟨μ3, hs1⟩
  refine wpIn_mono (F := Fence.wide.inRound l) h1 ?_
  intro e a1 w1 h
  cases e with
  | normal =>
    obtain ⟨st1, hI, μ4, hs4⟩ := h
    have hpk := hs4.poke (F' := ⟨w3, Owned μ3 σ, μ3, n, some (l, { rec with state := .busy })⟩) (r' := { rec with state := .busy }) rfl rfl (fun _ => ⟨idl, _, 0, c, hσ, hid⟩)
    refine ⟨_, run_beginRound (hs4.book.rnd l rec rfl).1 hready, ?_⟩
    have h2 := hI ⟨w3, Owned μ3 σ, μ3, n, some (l, { rec with state := .busy })⟩ rfl (.code rec.body :: .stop _ :: exKI _) (by simp only [List.map_cons, exKI_it]; rfl) a1 _ ⟨μ4, hpk⟩
    refine wpIn_mono (F := Fence.wide.inRound l) h2 ?_
    have fin : ∀ (st2 : St) (a2 : Act) (w2 : World) (jump : Option Code) (σ2 : Store), SatF ⟨w3, Owned μ3 σ, μ3, n, some (l, { rec with state := .busy })⟩ st2 a2 w2 → Beside (del σJ idl) (del σ idl) σ2 st2.σ →
        ∃ v w'', (Instr.endRound l jump).run P w2 = .ok v w'' ∧ v = .bool jump.isNone ∧ ∃ σ' μ' σJ', MuLe μ3 μ' ∧ Sat w3 (Owned μ3 σ) μ' σ' w'' ∧ Beside σJ σ σJ' σ' ∧
          σJ' idl = some (gh (.loop { rec with state := if jump.isNone then .ready else .done, pending := jump }) ((List.range n).map s)) ∧ del σJ' idl = σ2 := by
      rintro st2 a2 w2 jump σ2 ⟨μ5, hs5⟩ hbs
      obtain ⟨q1, q2⟩ := hs5.book.rnd l _ rfl
      have hid5 : μ5 idl = .lies l 0 c := (hs5.le idl (show μ3 idl ≠ .unborn by rw [hid]; simp)).trans hid
      have hn5 : st2.σ idl = none := by
        cases h : st2.σ idl with
        | none => rfl
        | some o => exact absurd ⟨idl, o, 0, c, h, hid5⟩ q2
      have hk5 : Keeps (Owned μ3 σ) (Owned μ5 st2.σ) w3 w2 := fun b hb hn => ⟨fun ho => hn (hs5.sat.fresh b ho hb), hs5.sat.same b hb hn⟩
      have henv5 := RepAll.mono hs5.le hk5 hs5.sat.size _ _ henv
      have hn2 : σ2 idl = none := by
        cases h : σ2 idl with
        | none => rfl
        | some o => have := hbs.1 idl o h; rw [hn5] at this; cases this
      refine ⟨_, _, run_endRound (P := P) jump q1, rfl, upd st2.σ idl (gh (.loop { rec with state := if jump.isNone then .ready else .done, pending := jump }) ((List.range n).map s)), μ5,
        upd σ2 idl (gh (.loop { rec with state := if jump.isNone then .ready else .done, pending := jump }) ((List.range n).map s)), hs5.le, ?_, ⟨hbs.1.upd2, fun i o h1 h2 => ?_⟩, upd_same, del_upd hn2⟩
      · exact hs5.sat.regain hn5 hid5 q2 q1 (fun _ => ⟨idl, _, 0, c, hσ, hid⟩) _ _ henv5
      · have hne : i ≠ idl := fun e => by rw [e, hrow] at h1; cases h1
        obtain ⟨g1, g2⟩ := hbs.2 i o (by rw [del_ne hne]; exact h1) (by rw [del_ne hne]; exact h2)
        rw [upd_ne hne, upd_ne hne]
        exact ⟨g1, g2⟩
    intro e a2 w2 h
    cases e with
    | normal =>
      obtain ⟨st2, ⟨σ2, hbs, hj⟩, hs2⟩ := h
      obtain ⟨v, w'', g1, rfl, σ', μ', σJ', g2, g3, g4, g5, g6⟩ := fin st2 a2 w2 none σ2 hs2 hbs
      refine ⟨_, w'', g1, true, σ', μ', rfl, ⟨σJ', g4, .inl ⟨rfl, ?_, by rw [g6]; exact hj⟩⟩, g2, g3⟩
      rw [g5]
      have : ({ rec with state := .ready, pending := none } : Loop) = rec := by rw [← hready, ← hpend]
      simp [this]
    | ret =>
      rcases kont_exits (by simp) _ h with ⟨_, st2, ⟨σ2, hbs, hj⟩, hs2⟩ | ⟨_, _, _, h, _⟩
      · obtain ⟨v, w'', g1, rfl, σ', μ', σJ', g2, g3, g4, g5, g6⟩ := fin st2 a2 w2 (some .ret) σ2 hs2 hbs
        exact ⟨_, w'', g1, false, σ', μ', rfl, ⟨σJ', g4, .inr ⟨rfl, none, g5, by rw [g6]; exact hj, by simp⟩⟩, g2, g3⟩
      · cases h
    | exit id =>
      rcases kont_exits (by simp) _ h with ⟨h, _⟩ | ⟨id', I, hin, h, st2, hI2, hs2⟩
      · cases h
      · cases h
        simp only [List.mem_map, Prod.mk.injEq] at hin
        obtain ⟨id'', hin', rfl, rfl⟩ := hin
        obtain ⟨σ2, hbs, hj⟩ := hI2
        obtain ⟨v, w'', g1, rfl, σ', μ', σJ', g2, g3, g4, g5, g6⟩ := fin st2 a2 w2 (some (.exit id'')) σ2 hs2 hbs
        exact ⟨_, w'', g1, false, σ', μ', rfl, ⟨σJ', g4, .inr ⟨rfl, some id'', g5, by rw [g6]; exact hj, by simp [hin']⟩⟩, g2, g3⟩
    | goto t => rcases kont_exits (by simp) _ h with ⟨h, _⟩ | ⟨_, _, _, h, _⟩ <;> cases h
    | panic ch => rcases kont_exits (by simp) _ h with ⟨h, _⟩ | ⟨_, _, _, h, _⟩ <;> cases h
    | outgrown => rcases kont_exits (by simp) _ h with ⟨h, _⟩ | ⟨_, _, _, h, _⟩ <;> cases h
  | ret => exact h.2.choose_spec.1.elim
  | exit id => rcases h.1 with h | h <;> cases h
  | goto t => rcases h.1 with h | h <;> cases h
  | panic ch => rcases h.1 with h | h <;> cases h
  | outgrown => rcases h.1 with h | h <;> cases h
end Go.Vc
namespace Go.Vc
variable {P : Program} {n : Nat} {st : St} {Q : St → Prop} {k : List It} {μ : Mu} {w w' : World}
theorem run_rangeCall {a : Act} {g : Operand} {l : Nat} {f : FuncId} {cv : List Value} (h : a.eval g = .func (.func f) #[] ⟨cv⟩) :
    (resolve a.eval (rangeCall g l) 0).run P w = .ok { target := .fn (.func f) ⟨cv⟩, args := #[.func (.yield l) #[] #[]] } w := by
  simp only [resolve, h, Deferred.ofValue]
  simp [go_sem]
theorem Runs.rangeF {g : VX} {ps : List Nat} {A B : VCode} {gf : FuncId} {caps : List V} (hg : g.ev st.s = .fn gf caps) {xs : List (List V)} (hit : Iter P gf caps xs)
    (hlen : ∀ x ∈ xs, x.length = ps.length) (exits : List Nat) (J : List (List V) → Store → Prop) (Jx : Option Nat → List (List V) → Store → Prop) (h0 : J [] st.σ)
    (hbody : ∀ pre x post σJ σ, xs = pre ++ x :: post → J pre σJ → SubStore σJ σ →
      Runs P n [.code A, .stop fun st1 => Runs P n (.code B :: .stop (fun st2 => ∃ σ2, Beside σJ σ σ2 st2.σ ∧ J (pre ++ [x]) σ2) ::
        exK (exits.map fun id => (id, fun st2 => ∃ σ2, Beside σJ σ σ2 st2.σ ∧ Jx (some id) (pre ++ [x]) σ2))) st1 (fun st2 => ∃ σ2, Beside σJ σ σ2 st2.σ ∧ Jx none (pre ++ [x]) σ2)]
        ⟨putL st.s ps x, σ⟩ (fun _ => False))
    (hdone : ∀ σ', J xs σ' → Runs P n k ⟨st.s, σ'⟩ Q)
    (hexit : ∀ id ∈ exits, ∀ pre σ', pre <+: xs → Jx (some id) pre σ' → Runs P n (.code (.exit id) :: k) ⟨st.s, σ'⟩ Q)
    (hret : ∀ pre σ', pre <+: xs → Jx none pre σ' → Runs P n (.code .ret :: k) ⟨st.s, σ'⟩ Q) : Runs P n (.code (.rangeF g ps A B) :: k) st Q := by
  intro F hn kt hk a w hs
  subst hn
  obtain ⟨z, kt', rfl, hy, hk'⟩ := kt_cons hk
  obtain ⟨c0, rfl, hc⟩ := it_code hy
  have hc0 : ∃ g0 ps0 a0 b0, c0 = .rangeFunc g0 ps0 a0 b0 ∧ cx F.n g0 = g ∧ ps0.toList = ps ∧ ccode P F.n a0 = A ∧ ccode P F.n b0 = B := by
    cases c0 <;> simp only [ccode, reduceCtorEq, VCode.rangeF.injEq] at hc
    case region => (split at hc; cases hc); split at hc <;> cases hc
    exact ⟨_, _, _, _, rfl, hc.1, hc.2.1, hc.2.2.1, hc.2.2.2⟩
  obtain ⟨g0, ps0, a0, b0, rfl, rfl, rfl, rfl, rfl⟩ := hc0
  obtain ⟨μ, hs⟩ := hs
  have hrg := rep_cx hs g0
  rw [hg] at hrg
  simp only [Rep] at hrg
  obtain ⟨cv, hgv, hcv⟩ := hrg
  refine wpIn_rangeFunc fun fn _ => ?_
  obtain ⟨mark, W0, D, hs0, hrun⟩ := hs.enter (P := P) fn ps0 a0 b0
  generalize hrec : ({ state := .ready, pending := none, fn, tmps := a.tmps, params := ps0, assign := a0, body := b0, defers := D } : Loop) = rec at hrun
  have hr1 : rec.state = .ready := by rw [← hrec]
  have hr2 : rec.pending = none := by rw [← hrec]
  have hr3 : rec.tmps = a.tmps := by rw [← hrec]
  have hr4 : rec.params = ps0 := by rw [← hrec]
  have hr5 : rec.assign = a0 := by rw [← hrec]
  have hr6 : rec.body = b0 := by rw [← hrec]
  have hszn : rec.tmps.size = F.n := by rw [hr3]; exact hs.size
  have henv : RepAll μ (Owned μ st.σ) W0 ((List.range F.n).map st.s) (tmpsOf (.loop rec)) := by
    have hl : tmpsOf (.loop rec) = (List.range F.n).map fun i => a.tmps.getD i undef := by
      simp only [tmpsOf, hr3]
      apply List.ext_getElem
      · simp [hs.size]
      · intro i h1 h2
        simp only [List.length_map, List.length_range] at h2
        simp only [Array.getElem_toList, List.getElem_map, List.getElem_range]
        rw [Array.getD_eq_getD_getElem?, Array.getElem?_eq_getElem (by rw [hs.size]; exact h2)]
        rfl
    rw [hl]
    have hall : ∀ l : List Nat, (∀ i ∈ l, i < F.n) → RepAll μ (Owned μ st.σ) W0 (l.map st.s) (l.map fun i => a.tmps.getD i undef) := by
      intro l
      induction l with
      | nil => intro _; simp [RepAll]
      | cons i l ih =>
        intro h
        simp only [List.map_cons, RepAll]
        exact ⟨_, _, rfl, hs0.slot i (h i (by simp)), ih fun j hj => h j (by simp [hj])⟩
    exact hall _ fun i hi => by simpa using hi
  obtain ⟨idl, hidn, μ1, hid1, hle1, hsat1, hk1⟩ := hs0.sat.newG (.loop rec) _ henv
  generalize hE : (List.range F.n).map st.s = env at *
  have hcvt : RepAll μ1 (Owned μ1 (upd st.σ idl (gh (.loop rec) env))) (W0.alloc (.loop rec)) caps cv := by
    have h1 : RepAll μ (Owned μ st.σ) W0 caps cv := by
      have h2 := rep_cx hs0 g0
      rw [hg] at h2
      simp only [Rep] at h2
      obtain ⟨cv', h3, h4⟩ := h2
      have : a.eval g0 = .func (.func gf) #[] ⟨cv'⟩ := h3
      rw [hgv] at this
      simp only [Value.func.injEq, Array.mk.injEq, true_and] at this
      rw [this]; exact h4
    exact RepAll.mono hle1 hk1 (by simp) _ _ h1
  obtain ⟨hcall, hiter⟩ := hit
  have key := hiter idl (fun pre σJ => σJ idl = some (gh (.loop rec) env) ∧ J pre (del σJ idl))
    (fun pre σJ => ∃ e : Option Nat, σJ idl = some (gh (.loop { rec with state := .done, pending := some (jumpOf e) }) env) ∧ Jx e pre (del σJ idl) ∧ ∀ id, e = some id → id ∈ exits)
    (upd st.σ idl (gh (.loop rec) env)) ?_ ⟨upd_same, by rw [del_upd hidn]; exact h0⟩
  · refine ⟨W0.heap.size, mark, _, _, _, gf, _, _, by rw [show F.fence.round = F.fence.round from rfl]; exact hrun, run_rangeCall hgv, fun _ _ => trivial,
      by simp only [invoke]; exact run_callFunc hcall _, fence_depth F, callsIn_fence ?_⟩
    have hargs : RepAll μ1 (Owned μ1 (upd st.σ idl (gh (.loop rec) env))) (W0.alloc (.loop rec)) (.yl idl :: caps) (.func (.yield W0.heap.size) #[] #[] :: cv) := by
      simp only [RepAll]
      exact ⟨_, _, rfl, by simp [Rep, hid1], hcvt⟩
    have hcl := key μ1 _ _ hsat1.here hargs
    have hvals : (Value.func (.yield W0.heap.size) #[] #[] :: cv).toArray = #[.func (.yield W0.heap.size) #[] #[]] ++ ⟨cv⟩ := by
      apply Array.ext'; simp
    rw [hvals] at hcl
    refine hcl.mono ?_
    rintro e w2 ⟨r, σ', μ', val, rfl, hp, hle2, hs2, -⟩
    obtain ⟨hs3, hk3⟩ := hsat1.compose hs2
    have hid2 : μ' idl = .lies W0.heap.size 0 0 := (hle2 idl (by rw [hid1]; simp)).trans hid1
    -- the end of the loop, whatever the record
    have fin : ∀ (rec2 : Loop), σ' idl = some (gh (.loop rec2) env) → rec2.state ≠ .busy → ∃ w4, (Instr.endLoop W0.heap.size).run P w2 = .ok rec2.pending w4 ∧
        SatF F ⟨st.s, del σ' idl⟩ { a with defers := mark ++ a.defers } w4 := by
      intro rec2 hrow hst
      obtain ⟨hl2, henv2⟩ := hs2.getG hrow hid2
      refine ⟨_, run_endLoop hl2 hst, μ', ?_⟩
      have hset := hs3.setG hrow hid2 (.loop { rec2 with state := .exhausted }) env henv2
      have hsub : SubStore (del σ' idl) (upd σ' idl (gh (.loop { rec2 with state := .exhausted }) env)) := fun i o h => by
        unfold del at h
        split at h
        · cases h
        · rename_i hi; rw [upd_ne hi]; exact h
      have hks := Keeps.sub (μ := μ') (w2.putObj W0.heap.size (.loop { rec2 with state := .exhausted })) hsub
      have hsz2 := hs2.size
      have hkall : Keeps (Owned μ st.σ) (Owned μ' (del σ' idl)) W0 (w2.putObj W0.heap.size (.loop { rec2 with state := .exhausted })) := fun b hb hn => by
        obtain ⟨q1, q2⟩ := hk1 b hb hn
        have hb1 : b < (W0.alloc (.loop rec)).heap.size := by simp; omega
        obtain ⟨q3, q4⟩ := hk3 b hb1 q1
        have hb2 : b < w2.heap.size := Nat.lt_of_lt_of_le hb1 hsz2
        obtain ⟨q5, q6⟩ := hset.2 b hb2 q3
        exact ⟨fun ho => q5 (ho.sub hsub), q6.trans (q4.trans q2)⟩
      have hle3 : MuLe μ μ' := hle1.trans hle2
      have hz : W0.heap.size ≤ (w2.putObj W0.heap.size (.loop { rec2 with state := .exhausted })).heap.size := by
        simp at hsz2 ⊢; omega
      exact ⟨hset.1.drop hsub, hs0.le.trans hle3, hs0.size, hs0.book.keep hkall, fun i hi => Rep.mono hle3 hkall hz _ _ (hs0.slot i hi)⟩
    rcases hp with ⟨hrow, hj⟩ | ⟨pre, hpre, e, hrow, hj, hin⟩
    · obtain ⟨w4, g1, g2⟩ := fin rec hrow (by rw [hr1]; simp)
      refine ⟨_, w4, g1, ?_⟩
      rw [hr2]
      exact hdone _ hj F rfl kt' hk' _ _ g2
    · obtain ⟨w4, g1, g2⟩ := fin _ hrow (by simp)
      refine ⟨_, w4, g1, ?_⟩
      cases e with
      | none => exact hret pre _ hpre hj F rfl (.code .ret :: kt') (by simp [KI.it, hk', ccode]) _ _ g2
      | some id => exact hexit id (hin id rfl) pre _ hpre hj F rfl (.code (.exit id) :: kt') (by simp [KI.it, hk', ccode]) _ _ g2
  · intro pre x post σJ σ hxs hJ hsub
    have hx : x.length = rec.params.toList.length := by rw [hr4]; exact hlen x (by rw [hxs]; simp)
    have hb := hbody pre x post (del σJ idl) (del σ idl) hxs hJ.2 (del_sub hsub)
    subst hE
    refine round_YC hr1 hr2 hszn hx hJ.1 hsub (J (pre ++ [x])) exits (fun e => Jx e (pre ++ [x])) ?_
    rw [hr4, hr5, hr6]
    exact hb
end Go.Vc
namespace Go.Vc
variable {P : Program} {n : Nat} {st : St} {Q : St → Prop} {k : List It}
def readyV (deps : List (List Nat)) (listed : List Nat) : List Nat := (List.range deps.length).filter fun i => !listed.contains i && (deps.getD i []).all listed.contains
def allV (P : Program) (l : List VIns) (rec : List Nat → St → Prop) (listed : List Nat) (x : St) : List Nat → Prop
  | [] => True
  | i :: is => (match l[i]? with
      | some ins => T P ins x (rec (i :: listed))
      | none => False) ∧ allV P l rec listed x is
def anyV (P : Program) (l : List VIns) (deps : List (List Nat)) (Q : St → Prop) : Nat → List Nat → St → Prop
  | 0, listed, x => readyV deps listed = [] ∧ Q x
  | f + 1, listed, x => match readyV deps listed with
      | [] => Q x
      | i :: is => allV P l (anyV P l deps Q f) listed x (i :: is)
theorem allV_mem {l : List VIns} {rec : List Nat → St → Prop} {listed : List Nat} {x : St} : ∀ {is : List Nat}, allV P l rec listed x is → ∀ i ∈ is, ∃ ins, l[i]? = some ins ∧ T P ins x (rec (i :: listed))
  | [], _, _, hi => by cases hi
  | j :: is, h, i, hi => by
    obtain ⟨h1, h2⟩ := h
    rcases List.mem_cons.1 hi with rfl | hi
    · cases hl : l[i]? with
      | none => rw [hl] at h1; exact h1.elim
      | some ins => rw [hl] at h1; exact ⟨ins, rfl, h1⟩
    · exact allV_mem h2 i hi
abbrev depsOf (ops : Array Oper) : List (List Nat) := ops.toList.map fun o => (o.after.toList.filter (Region.binds .any)).map (·.on)
theorem readyV_eq {ops : Array Oper} {arr : Array Bool} {listed : List Nat} (hs : arr.size = ops.size) (hl : ∀ i, i < ops.size → arr.getD i true = listed.contains i)
    (ho : ∀ i ∈ listed, i < ops.size) : Region.ready .any ops arr = readyV (depsOf ops) listed := by
  unfold Region.ready readyV
  have hlen : (depsOf ops).length = ops.size := by simp [depsOf]
  rw [hlen]
  refine List.filter_congr fun i hi => ?_
  have hi : i < ops.size := by simpa using hi
  rw [hl i hi]
  congr 1
  have h1 : ops[i]? = some ops[i] := Array.getElem?_eq_getElem hi
  have h2 : (depsOf ops).getD i [] = (ops[i].after.toList.filter (Region.binds .any)).map (·.on) := by
    rw [List.getD_eq_getElem?_getD]
    simp [depsOf, hi]
  rw [h1, h2]
  simp only [Option.map_some, Option.getD_some]
  rw [← Array.all_toList, List.all_map, List.all_filter]
  congr 1
  funext e
  simp only [Function.comp]
  have h3 : arr.getD e.on false = listed.contains e.on := by
    by_cases he : e.on < ops.size
    · rw [← hl _ he, Array.getD_eq_getD_getElem?, Array.getD_eq_getD_getElem?, Array.getElem?_eq_getElem (by omega)]
      rfl
    · rw [Array.getD_eq_getD_getElem?, Array.getElem?_eq_none (by omega)]
      simp only [Option.getD_none]
      symm
      rw [Bool.eq_false_iff]
      intro hc
      exact he (ho _ (by simpa using hc))
  rw [h3]
theorem wpAnyT_of_anyV {ops : Array Oper} {Q : St → Prop} : ∀ (f : Nat) (arr : Array Bool) (listed : List Nat) (x : St), arr.size = ops.size → (∀ i, i < ops.size → arr.getD i true = listed.contains i) →
    (∀ i ∈ listed, i < ops.size) → anyV P (ops.toList.map (cins P n ops)) (depsOf ops) Q f listed x → wpAnyT P n ops Q f arr x
  | 0, arr, listed, x, hs, hl, ho, h => ⟨by rw [readyV_eq hs hl ho]; exact h.1, h.2⟩
  | f + 1, arr, listed, x, hs, hl, ho, h => by
    have hr := readyV_eq hs hl ho
    unfold anyV at h
    refine ⟨fun h0 => ?_, fun i hi => ?_⟩
    · rw [hr] at h0
      rw [h0] at h
      exact h
    · rw [hr] at hi
      have hlt : i < ops.size := by
        have := (List.mem_filter.1 hi).1
        simpa [depsOf] using this
      have hall : allV P (ops.toList.map (cins P n ops)) (anyV P (ops.toList.map (cins P n ops)) (depsOf ops) Q f) listed x (readyV (depsOf ops) listed) := by
        cases hrr : readyV (depsOf ops) listed with
        | nil => exact trivial
        | cons j js => rw [hrr] at h; exact h
      obtain ⟨ins, h1, h2⟩ := allV_mem hall i hi
      have h3 : ops[i]? = some ops[i] := Array.getElem?_eq_getElem hlt
      have h4 : ins = cins P n ops ops[i] := by simpa [hlt] using h1.symm
      unfold Tn
      simp only [h3]
      rw [← h4]
      refine h2.mono fun x' hx' => wpAnyT_of_anyV f _ (i :: listed) x' (by simpa using hs) (fun j hj => ?_) (fun j hj => ?_) hx'
      · by_cases e : j = i
        · subst e
          rw [Array.getD_eq_getD_getElem?, Array.getElem?_setIfInBounds_self_of_lt (by omega)]
          simp
        · rw [Array.getD_eq_getD_getElem?, Array.getElem?_setIfInBounds_ne (fun e' => e e'.symm), ← Array.getD_eq_getD_getElem?, hl j hj]
          simp [e]
      · rcases List.mem_cons.1 hj with rfl | hj
        · exact hlt
        · exact ho j hj
theorem Runs.regA (hm : P.follows .mixedOrders = true) {l : List VIns} {deps : List (List Nat)} (h : anyV P l deps (fun x => Runs P n k x Q) l.length [] st) : Runs P n (.code (.regA l deps) :: k) st Q := by
  intro F hn kt hk a w hs
  obtain ⟨z, kt', rfl, hy, hk'⟩ := kt_cons hk
  obtain ⟨c0, rfl, hcc⟩ := it_code hy
  have hc0 : ∃ id ops, c0 = .region id ops true ∧ ops.toList.map (cins P n ops) = l ∧ depsOf ops = deps := by
    cases c0 <;> simp only [ccode, reduceCtorEq] at hcc
    rename_i id ops draw
    cases draw
    · simp at hcc
    · simp only [Bool.true_and] at hcc
      split at hcc
      · cases hcc
      split at hcc
      · simp only [VCode.regA.injEq] at hcc
        exact ⟨id, ops, rfl, hcc.1, hcc.2⟩
      · simp at hcc
  obtain ⟨id, ops, rfl, rfl, rfl⟩ := hc0
  have hs' : SatF F st a { w with drawn := w.drawn + 1 } := by
    obtain ⟨μ, hs⟩ := hs
    have hk : Keeps (Owned μ st.σ) (Owned μ st.σ) w { w with drawn := w.drawn + 1 } := fun _ _ h => ⟨h, rfl⟩
    refine ⟨μ, ⟨⟨hs.sat.size, hs.sat.os, hs.sat.tape, hs.sat.output, hs.sat.same, hs.sat.fin, hs.sat.inj, fun id o ho => ?_, hs.sat.fresh, hs.sat.glob⟩, hs.le, hs.size, hs.book.keep hk, fun i hi => ?_⟩⟩
    · exact (hs.sat.obj id o ho).mono (MuLe.refl μ) hk (Nat.le_refl _) (fun _ _ _ _ => rfl)
    · exact Rep.mono (MuLe.refl μ) hk (Nat.le_refl _) _ _ (hs.slot i hi)
  refine wpIn_region_any hm (wpAny_of_T (Q := fun x => Runs P n k x Q) hn (fun x a w hs h => h F hn kt' hk' a w hs) _ _ _ _ _ hs' ?_)
  have := wpAnyT_of_anyV (P := P) (n := n) (Q := fun x => Runs P n k x Q) (ops := ops) ops.size (Array.replicate ops.size false) [] st (by simp) (fun i hi => by
    rw [Array.getD_eq_getD_getElem?, Array.getElem?_replicate, if_pos hi]; simp) (by simp) (by simpa using h)
  exact this
end Go.Vc
