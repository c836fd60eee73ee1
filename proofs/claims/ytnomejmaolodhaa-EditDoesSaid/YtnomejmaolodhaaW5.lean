/- Part 5 of the library of this proof. -/
import Derived.Test.YtnomejmaolodhaaW4
import Derived.WalkKit
import Derived.ProofKit
import Derived.Deep.Slices
import Derived.ChangeArms
import Derived.WideKeyArgs
import Derived.Carry
import Derived.SizedLaws
set_option linter.all false
namespace Go.Vc
open Go.ChangeShapes Go.WideShapes Go.RowKit Go.Deep
def contig (P : Program) (total : Nat) : Nat → List Field → Bool
  | off, [] => off == total
  | off, f :: fs => f.offset == off && contig P total (off + P.cellsOf f.type) fs
def okTy (P : Program) : Nat → TypeId → Bool
  | 0, _ => false
  | n + 1, t => match P.underlying t with
    | some .bool | some (.int _) | some .string => true
    | some (.slice e) => okTy P n e && P.cellsOf e != 0
    | some (.struct fs) => contig P (P.cellsOf t) 0 fs.toList && fs.toList.all fun f => okTy P n f.type
    | _ => false
def rowOf (agg : Bool) (cs : List V) : V := if agg then .agg cs else cs.getD 0 .undef
def ShpFs (S : TypeId → List V → Prop) : List Field → List V → Prop
  | [], vs => vs = []
  | f :: fs, vs => ∃ a b, vs = a ++ b ∧ S f.type a ∧ ShpFs S fs b
def ShpC (P : Program) : Nat → TypeId → List V → Prop
  | 0, _, _ => False
  | n + 1, t, vs => match P.underlying t with
    | some .bool => ∃ b, vs = [.bool b]
    | some (.int k) => ∃ m, vs = [.int k m] ∧ (Lit.int k m).wf = true
    | some .string => ∃ s : List UInt8, vs = [.str s] ∧ s.length ≤ reachBytes
    | some (.slice e) => ∃ rows, vs = [.sl (P.cellsOf e) rows] ∧ rows.length * P.bytesOf e ≤ reachBytes ∧ ∀ r ∈ rows, ∃ cs, ShpC P n e cs ∧ r = rowOf (aggT P e) cs
    | some (.struct fs) => ShpFs (ShpC P n) fs.toList vs
    | _ => False
theorem list_of {α : Type} {Pr : Nat → α → Prop} : ∀ n, (∀ i, i < n → ∃ r, Pr i r) → ∃ rows : List α, rows.length = n ∧ ∀ i r, rows[i]? = some r → Pr i r
  | 0, _ => ⟨[], rfl, fun i r h => by simp at h⟩
  | n + 1, h => by
    obtain ⟨rows, h1, h2⟩ := list_of n fun i hi => h i (by omega)
    obtain ⟨r, hr⟩ := h n (by omega)
    refine ⟨rows ++ [r], by simp [h1], fun i x hx => ?_⟩
    rw [List.getElem?_append] at hx
    split at hx
    · exact h2 i x hx
    · rename_i hi
      have : i - rows.length = 0 := by
        rcases Nat.eq_zero_or_pos (i - rows.length) with h0 | h0
        · exact h0
        · rw [List.getElem?_eq_none (by simp; omega)] at hx; cases hx
      rw [this] at hx
      simp at hx
      subst hx
      have : i = n := by omega
      subst this
      exact hr
theorem repRows_of {μ : Mu} {ow : Nat → Prop} {w : World} {b off sz : Nat} : ∀ (rows : List V) (k : Nat), (∀ i r, rows[i]? = some r → r.cells.length = sz ∧ RepCells μ ow w r.cells b (off + (k + i) * sz)) → RepRows μ ow w rows b (off + k * sz) sz
  | [], _, _ => by simp [RepRows]
  | r :: rs, k, h => by
    have h0 := h 0 r rfl
    simp only [RepRows]
    refine ⟨h0.1, by rw [RepRow_eq]; simpa using h0.2, ?_⟩
    have e : off + k * sz + sz = off + (k + 1) * sz := by rw [Nat.add_mul]; omega
    rw [e]
    refine repRows_of rs (k + 1) fun i x hx => ?_
    have := h (i + 1) x (by simpa using hx)
    rw [show k + 1 + i = k + (i + 1) by omega]
    exact this
section
variable {H : Type} {enc : TypeId × Value → H} {P : Program} {w : World} {base : Nat} {spare : Nat → Bool} {held : Bool} {μ : Mu} {ow : Nat → Prop}
def RepShp (P : Program) (μ : Mu) (ow : Nat → Prop) (w : World) (N : Nat) (t : TypeId) (cs : List Value) : Prop :=
  ∃ vs, ShpC P N t vs ∧ RepAll μ ow w vs cs ∧ ∀ u ∈ cs, u.oneCell' = true
theorem struct_rep {S : TypeId → List V → Prop} {cs : List Value} : ∀ (fs : List Field) (off : Nat), contig P cs.length off fs = true →
    (∀ f ∈ fs, ∃ vs, S f.type vs ∧ RepAll μ ow w vs ((cs.drop f.offset).take (P.cellsOf f.type)) ∧ ∀ u ∈ (cs.drop f.offset).take (P.cellsOf f.type), u.oneCell' = true) →
    ∃ vs, ShpFs S fs vs ∧ RepAll μ ow w vs (cs.drop off) ∧ ∀ u ∈ cs.drop off, u.oneCell' = true
  | [], off, hc, _ => by
    simp only [contig, beq_iff_eq] at hc
    refine ⟨[], rfl, ?_, ?_⟩
    · rw [List.drop_eq_nil_of_le (by omega)]; simp [RepAll]
    · rw [List.drop_eq_nil_of_le (by omega)]; simp
  | f :: fs, off, hc, h => by
    simp only [contig, Bool.and_eq_true, beq_iff_eq] at hc
    obtain ⟨a, h1, h2, h3⟩ := h f (by simp)
    obtain ⟨b, h4, h5, h6⟩ := struct_rep fs (off + P.cellsOf f.type) hc.2 fun g hg => h g (by simp [hg])
    rw [hc.1] at h2 h3
    have e : cs.drop off = (cs.drop off).take (P.cellsOf f.type) ++ cs.drop (off + P.cellsOf f.type) := by
      rw [← List.drop_drop, List.take_append_drop]
    refine ⟨a ++ b, ⟨a, b, rfl, h1, h4⟩, ?_, ?_⟩
    · rw [e]; exact h2.append h5
    · rw [e]; intro u hu
      rcases List.mem_append.1 hu with hu | hu
      · exact h3 u hu
      · exact h6 u hu
theorem one_rep {v : V} {x : Value} (h : Rep μ ow w v x) : RepAll μ ow w [v] [x] := by simp only [RepAll]; exact ⟨x, [], rfl, h, rfl⟩
theorem aggT_struct {t : TypeId} {fs : Array Field} (h : P.underlying t = some (.struct fs)) : aggT P t = true := by simp [aggT, h]
theorem weightsAll_mem {e : TypeId} {d : DataW H} : ∀ {l : List (DataW H)}, d ∈ l → ∀ n ∈ d.weights P e, n ∈ DataW.weightsAll P e l
  | [], h, _, _ => by simp at h
  | x :: l, h, n, hn => by
    simp only [DataW.weightsAll, List.mem_append]
    rcases List.mem_cons.1 h with rfl | h
    · exact .inl hn
    · exact .inr (weightsAll_mem h n hn)
theorem rep_of_trod (hno : ∀ b, ¬ ow b) : ∀ (N : Nat) (fuel : Nat) (t : TypeId) (cs : List Value) (x : DataW H × List MemPlace), okTy P N t = true → (∀ n ∈ x.1.weights P t, n ≤ reachBytes) → DataW.trod enc P w base spare held fuel t cs = some x →
    RepShp P μ ow w N t cs
  | 0, _, _, _, _, h, _, _ => by simp [okTy] at h
  | N + 1, fuel, t, cs, x, hok, hwt, hx => by
    have hok' := hok
    unfold okTy at hok
    unfold RepShp
    simp only [ShpC]
    split at hok
    · rename_i ht
      obtain ⟨b, rfl, _⟩ := DataW.trod_bool ht hx
      exact ⟨[.bool b], ⟨b, rfl⟩, one_rep (by simp [Rep]), by simp [Value.oneCell']⟩
    · rename_i k ht
      obtain ⟨m, rfl, _, hw⟩ := DataW.trod_int ht hx
      exact ⟨[.int k m], ⟨m, rfl, hw⟩, one_rep (by simp [Rep]), by simp [Value.oneCell']⟩
    · rename_i ht
      obtain ⟨s, rfl, rfl, hw⟩ := DataW.trod_string ht hx
      exact ⟨[.str s.data.toList], ⟨_, rfl, hwt _ (by simp [DataW.weights])⟩, one_rep (by simp [Rep]), by simp [Value.oneCell']⟩
    · rename_i e ht
      simp only [Bool.and_eq_true, bne_iff_ne, ne_eq] at hok
      rcases open_slice ht hx with ⟨rfl, _⟩ | ⟨a, len, cap, m, n, D, Pl, rfl, hb, hl, hm, hmm, rfl, hi⟩
      · exact ⟨[.sl (P.cellsOf e) []], ⟨[], rfl, by simp, by simp⟩, one_rep (by simp only [Rep]; exact ⟨none, 0, rfl, by simp, .inl trivial⟩), by simp [Value.oneCell']⟩
      · have hlm : len ≤ m := by rw [hmm]; split <;> omega
        simp only [DataW.weights, ht] at hwt
        have hlen : len * P.bytesOf e ≤ reachBytes := by
          have := hwt _ (List.mem_cons_self ..)
          simp only [List.length_map, List.length_range] at this
          exact Nat.le_trans (Nat.mul_le_mul_right _ (by omega)) this
        have hel : ∀ i, i < len → ∃ r : V, (∃ cs, ShpC P N e cs ∧ r = rowOf (aggT P e) cs) ∧ r.cells.length = P.cellsOf e ∧ ∃ cs', RepAll μ ow w r.cells cs' ∧ (∀ u ∈ cs', u.oneCell' = true) ∧ cs'.length = P.cellsOf e ∧
            ∀ j, j < P.cellsOf e → w.cell? ((a.add (i * P.cellsOf e)).add j) = cs'[j]? := by
          intro i hi'
          obtain ⟨cs', h1, h2⟩ := hi i (by omega)
          obtain ⟨_, hcl, hat⟩ := World.cells?_some h1
          obtain ⟨vs, h3, h4, h5⟩ := rep_of_trod hno N n e cs' _ hok.1 (fun q hq => hwt q (List.mem_cons_of_mem _ (List.mem_append_left _ (weightsAll_mem (List.mem_map.2 ⟨i, by simpa using hi', rfl⟩) q hq)))) h2
          have hvl : vs.length = P.cellsOf e := by rw [← hcl, h4.length]
          have hcells : (rowOf (aggT P e) vs).cells = vs := by
            unfold rowOf
            split
            · rfl
            · rename_i hna
              cases N with
              | zero => simp [ShpC] at h3
              | succ N' =>
                unfold ShpC at h3
                split at h3
                · obtain ⟨b, rfl⟩ := h3; rfl
                · obtain ⟨b, rfl, _⟩ := h3; rfl
                · obtain ⟨b, rfl, _⟩ := h3; rfl
                · obtain ⟨b, rfl, _⟩ := h3; rfl
                · rename_i hs; exact absurd (aggT_struct hs) hna
                · exact h3.elim
          exact ⟨rowOf (aggT P e) vs, ⟨vs, h3, rfl⟩, by rw [hcells, hvl], cs', by rw [hcells]; exact h4, h5, hcl, hat⟩
        obtain ⟨rows, hr1, hr2⟩ := list_of len hel
        refine ⟨[.sl (P.cellsOf e) rows], ⟨rows, rfl, by rw [hr1]; exact hlen, fun r hr => ?_⟩, one_rep ?_, by simp [Value.oneCell']⟩
        · obtain ⟨i, hi'⟩ := List.getElem?_of_mem hr
          exact (hr2 i r hi').1
        · simp only [Rep]
          refine ⟨some a, cap, by rw [hr1], by omega, ?_⟩
          by_cases h0 : len = 0
          · left; exact List.eq_nil_of_length_eq_zero (by omega)
          · right
            have hfirst : ∃ r, rows[0]? = some r := ⟨rows[0]'(by omega), by simp⟩
            obtain ⟨r0, hr0⟩ := hfirst
            obtain ⟨_, _, cs0, _, _, hcl0, hat0⟩ := hr2 0 r0 hr0
            have hc0 := hat0 0 (by omega)
            rw [List.getElem?_eq_getElem (by omega)] at hc0
            have hspot : a.spot = none := by
              have := World.cell?_spot hc0
              simpa [Addr.add] using this
            obtain ⟨b, off, spot⟩ := a
            subst hspot
            refine ⟨b, off, rfl, hno b, by omega, ?_⟩
            have := repRows_of (μ := μ) (ow := ow) (w := w) (b := b) (off := off) (sz := P.cellsOf e) rows 0 fun i r hri => ?_
            · simpa using this
            · obtain ⟨_, h1, cs', h2, h3, h4, h5⟩ := hr2 i r hri
              refine ⟨h1, RepCells_of h2 h3 fun j u hu => ?_⟩
              have hj : j < P.cellsOf e := by rw [← h4]; exact (List.getElem?_eq_some_iff.1 hu).1
              have := h5 j hj
              rw [hu, add_plain, add_plain] at this
              rw [Nat.zero_add]
              exact this
    · rename_i fs ht
      simp only [Bool.and_eq_true] at hok
      obtain ⟨xs, n, _, rfl, hl, hxl, hf⟩ := DataW.trod_struct ht hx
      simp only [DataW.weights, ht] at hwt
      obtain ⟨vs, h1, h2, h3⟩ := struct_rep (μ := μ) (ow := ow) (w := w) (P := P) (S := ShpC P N) (cs := cs) fs.toList 0 (by rw [hl]; exact hok.1) fun f hfm => by
        obtain ⟨i, hi⟩ := List.getElem?_of_mem hfm
        have hi' : fs[i]? = some f := by simpa using hi
        have hlt : i < xs.length := by rw [hxl]; exact (Array.getElem?_eq_some_iff.1 hi').1
        have h1 := hf i f hi'
        rw [List.getElem?_eq_getElem hlt] at h1
        exact rep_of_trod hno N n f.type _ _ (List.all_eq_true.1 hok.2 f hfm) (fun q hq => hwt q (DataW.weights_mem_each (j := i) (t := f.type) (d := (xs[i]'hlt).1) (by simp [hi]) (by simp [hlt]) q hq)) h1
      exact ⟨vs, h1, by simpa using h2, by simpa using h3⟩
    · cases hok
def argOf (P : Program) (t : TypeId) (vs : List V) : V := if aggT P t then .agg vs else vs.getD 0 .undef
theorem arg_rep (hno : ∀ b, ¬ ow b) {N : Nat} {t : TypeId} {v : Value} {d : DataW H} {p : List MemPlace} {r : Reach} {b0 : Nat} (hok : okTy P N t = true) (hwt : ∀ n ∈ d.weights P t, n ≤ reachBytes) (hval : Value.okWide P w r b0 t v) (h : DataW.Trod enc P w base spare held t v d p) :
    ∃ vs, ShpC P N t vs ∧ Rep μ ow w (argOf P t vs) v := by
  obtain ⟨fuel, hf⟩ := h
  obtain ⟨vs, h1, h2, h3⟩ := rep_of_trod (μ := μ) hno N fuel t _ _ hok hwt hf
  refine ⟨vs, h1, ?_⟩
  cases N with
  | zero => simp [ShpC] at h1
  | succ N' =>
    unfold ShpC at h1
    have hone : ∀ u : V, vs = [u] → v.cells = #[v] → aggT P t = false → Rep μ ow w (argOf P t vs) v := by
      rintro u rfl hc ha
      rw [hc] at h2
      simp only [RepAll] at h2
      obtain ⟨x, xs, h4, h5, h6⟩ := h2
      simp only [List.cons.injEq] at h4
      simp only [argOf, ha, Bool.false_eq_true, if_false]
      rw [h4.1]; exact h5
    split at h1
    · rename_i ht
      obtain ⟨b, rfl⟩ := h1
      obtain ⟨x, rfl⟩ := okWide_bool ht hval
      exact hone _ rfl rfl (by simp [aggT, ht])
    · rename_i ht
      obtain ⟨b, rfl, _⟩ := h1
      obtain ⟨x, rfl⟩ := okWide_int ht hval
      exact hone _ rfl rfl (by simp [aggT, ht])
    · rename_i ht
      obtain ⟨b, rfl, _⟩ := h1
      obtain ⟨x, rfl⟩ := okWide_string ht hval
      exact hone _ rfl rfl (by simp [aggT, ht])
    · rename_i ht
      obtain ⟨b, rfl, _⟩ := h1
      obtain ⟨x, y, z, rfl⟩ := okWide_slice ht hval
      exact hone _ rfl rfl (by simp [aggT, ht])
    · rename_i ht
      obtain ⟨cs, rfl, _⟩ := okWide_struct ht hval
      simp only [argOf, aggT_struct ht, if_true, Rep]
      exact ⟨cs.toList, by simp, by simpa [Value.cells] using h2, by simpa [Value.cells] using h3⟩
    · exact h1.elim
def ShpArgs (P : Program) (N : Nat) : List TypeId → List V → Prop
  | [], us => us = []
  | t :: ts, us => ∃ vs us', us = argOf P t vs :: us' ∧ ShpC P N t vs ∧ ShpArgs P N ts us'
theorem args_rep (hno : ∀ b, ¬ ow b) {N : Nat} {r : Reach} {b0 : Nat} : ∀ {ts : List TypeId} {vs : List Value} {ds : List (DataW H)} {p : List MemPlace}, (∀ t ∈ ts, okTy P N t = true) → (∀ n ∈ DataW.weightsEach P ts ds, n ≤ reachBytes) →
    (∀ (j : Nat) t v, ts[j]? = some t → vs[j]? = some v → Value.okWide P w r b0 t v) → DataW.TrodAll enc P w base spare held ts vs ds p → ∃ us, ShpArgs P N ts us ∧ RepAll μ ow w us vs
  | [], vs, ds, p, _, _, _, h => by
    cases vs <;> cases ds <;> simp [DataW.TrodAll] at h
    exact ⟨[], rfl, by simp [RepAll]⟩
  | t :: ts, vs, ds, p, hok, hwt, hval, h => by
    obtain ⟨v, vs', d, ds', p', q, rfl, rfl, rfl, h1, h2⟩ := trodAll_cons h
    simp only [DataW.weightsEach, List.mem_append] at hwt
    obtain ⟨cs, g1, g2⟩ := arg_rep (μ := μ) (b0 := b0) hno (hok t (by simp)) (fun q hq => hwt q (.inl hq)) (hval 0 t v rfl rfl) h1
    obtain ⟨us, g3, g4⟩ := args_rep (b0 := b0) hno (fun u hu => hok u (by simp [hu])) (fun q hq => hwt q (.inr hq)) (fun j u x hj hx => hval (j + 1) u x (by simpa using hj) (by simpa using hx)) h2
    exact ⟨_ :: us, ⟨cs, us, rfl, g1, g3⟩, by simp only [RepAll]; exact ⟨v, vs', rfl, g2, g4⟩⟩
theorem trodAll_stays (hl : laidOutB P = true) : ∀ {ts : List TypeId} {vs : List Value} {ds : List (DataW H)} {p : List MemPlace} {W W' : World} {sp : Nat → Bool}, (∀ t ∈ ts, P.readableRec t = true ∧ t < P.types.size) →
    DataW.TrodAll enc P W 0 (fun _ => true) true ts vs ds p → Below W.heap.size W W' → (∀ x ∈ p, x.block < W.heap.size) → (∀ x ∈ p, sp x.block = true) → DataW.TrodAll enc P W' 0 sp true ts vs ds p
  | [], vs, ds, p, W, W', sp, _, h, _, _, _ => by
    cases vs <;> cases ds <;> simp [DataW.TrodAll] at h ⊢
    exact h
  | t :: ts, vs, ds, p, W, W', sp, ht, h, hb, hlt, hsp => by
    obtain ⟨v, vs', d, ds', p', q, rfl, rfl, rfl, h1, h2⟩ := trodAll_cons h
    refine ⟨p', q, WideElems.Trod_stays hl (ht t (by simp)).1 (ht t (by simp)).2 h1 (fun x hx => hb.same (hlt x (by simp [hx]))) (fun x hx => hsp x (by simp [hx])), ?_, rfl⟩
    exact trodAll_stays hl (fun u hu => ht u (by simp [hu])) h2 hb (fun x hx => hlt x (by simp [hx])) (fun x hx => hsp x (by simp [hx]))
end
theorem post_of_below {H : Type} {enc : TypeId × Value → H} {P : Program} {f : Func} {s : ChangeSpec} {apart fresh handsOn again : Bool} {W W' : World} {args : Array Value} {v : Value} {ds gs : List (DataW H)} {before pa pv : List MemPlace}
    (hW : DataW.Whole enc P f.params.toList s.vars apart W args.toList ds gs before)
    (hres : ∀ (b : Nat) (sp : Nat → Bool) (hd : Bool), DataW.TrodAll enc P W' b sp hd f.resultTypes.toList (v.resultList f.resultTypes.size) (s.fn H (ds ++ gs)).results [])
    (hargs : ∀ sp : Nat → Bool, (∀ p ∈ before, sp p.block = true) → DataW.TrodAll enc P W' 0 sp true f.params.toList args.toList (s.fn H (ds ++ gs)).args pa)
    (hvars : ∀ sp : Nat → Bool, (∀ p ∈ before, sp p.block = true) → DataW.TrodVars enc P W' sp s.vars (s.fn H (ds ++ gs)).vars pv)
    (hps : before = pa ++ pv) (hb : Below W.heap.size W W')
    (hok : ∀ (j : Nat) (t : TypeId) (r : Value), f.resultTypes[j]? = some t → (v.resultList f.resultTypes.size)[j]? = some r → Value.okWide P W' .any 0 t r) :
    s.post enc P f apart fresh handsOn again W args v W' := by
  have hlt : ∀ p ∈ before, p.block < W.heap.size := fun p hp => hW.lt p hp
  have hold : ∀ p ∈ before, (fun b => decide (b < W.heap.size)) p.block = true := fun p hp => by simpa using hlt p hp
  refine ⟨ds, gs, before, [], pa, pv, hW, hres _ _ _, hargs _ hold, hvars _ hold, World.keptBut_mono (fun p hp => ⟨hp, ?_⟩) (hb.frame (· ∈ before)), fun _ => ?_⟩
  · rw [hps, List.mem_append] at hp
    exact Or.inr hp
  · obtain ⟨_, _, _, _, _, hz, hn⟩ := hW
    refine ⟨hok, _, _, ([] ++ pa) ++ pv, ⟨[] ++ pa, pv, trodAll_append (hargs _ (fun _ _ => rfl)) (hres _ _ _), hvars _ (fun _ _ => rfl), rfl, ?_, ?_⟩, ?_⟩
    · intro b off hp
      have hin : MemPlace.cell b off ∈ before := by rw [hps]; simpa using hp
      rw [hb.frozen (hlt _ hin)]
      exact hz b off hin
    · intro ha
      have := hn ha
      rw [hps] at this
      simpa using this
    · intro p hp _
      rw [hps]
      simpa using hp
theorem law_post {H : Type} {enc : TypeId × Value → H} {P : Program} {f : Func} {i : FuncId} {s : ChangeSpec} {N : Nat} (hfs : P.funcs[i]? = some f) (hl : laidOutB P = true)
    (hts : f.params.toList.all (fun t => okTy P N t && (P.readableRec t && decide (t < P.types.size))) = true) (hvars : s.vars = []) {tb : TypeId} (hres : f.resultTypes = #[tb]) (htb : P.underlying tb = some .bool)
    (hfn : ∀ ds, ds.length = f.params.size → s.fn H ds = ⟨[.lit (.bool true)], ds, []⟩)
    (hlaw : ∀ us, ShpArgs P N f.params.toList us → PFun P i us (.bool true))
    {apart fresh handsOn again : Bool} {W : World} {base : Nat} {args : Array Value} {ds gs : List (DataW H)} {before : List MemPlace}
    (hval : ∀ (j : Nat) t v, f.params[j]? = some t → args[j]? = some v → Value.okWide P W .any base t v)
    (hW : DataW.Whole enc P f.params.toList s.vars apart W args.toList ds gs before) (hvt : s.plain.varTypes P = [])
    (hsz : (DataW.weightsEach P (f.params.toList ++ s.plain.varTypes P) (ds ++ gs)).all (· ≤ reachBytes) = true) (hO : Orig W) :
    Calls P i args W fun e W' => ∃ v, e = .returned v ∧ s.post enc P f apart fresh handsOn again W args v W' := by
  have hW' := hW
  obtain ⟨p, q, hA, hV, rfl, hfz, hnd⟩ := hW
  have hts' := List.all_eq_true.1 hts
  simp only [Bool.and_eq_true, decide_eq_true_eq] at hts'
  rw [hvars] at hV
  have hnoV : gs = [] ∧ q = [] := by
    cases gs with
    | nil => exact ⟨rfl, by simpa [DataW.TrodVars] using hV⟩
    | cons g gs => simp [DataW.TrodVars] at hV
  obtain ⟨rfl, rfl⟩ := hnoV
  have hno : ∀ b, ¬ Owned (fun _ => Pl.unborn) nost b := fun b ⟨_, _, _, _, h, _⟩ => by simp [nost] at h
  obtain ⟨us, hsh, hrep⟩ := args_rep (μ := fun _ => Pl.unborn) (ow := Owned (fun _ => Pl.unborn) nost) (b0 := base) (r := .any) hno (fun t ht => (hts' t ht).1)
    (by rw [hvt, List.append_nil, List.append_nil] at hsz; intro n hn; simpa using List.all_eq_true.1 hsz n hn) (fun j t v hj hv => hval j t v (by simpa using hj) (by simpa using hv)) hA
  have hsat : Sat W (Owned (fun _ => Pl.unborn) nost) (fun _ => Pl.unborn) nost W :=
    ⟨Nat.le_refl _, rfl, rfl, rfl, fun _ _ _ => rfl, ⟨0, fun _ _ => rfl⟩, fun _ _ _ _ _ _ _ _ _ h => by simp [nost] at h, fun _ _ h => by simp [nost] at h, fun b hb => (hno b hb).elim, ⟨W, hO, Nat.le_refl _, fun i _ => ⟨hno i, rfl⟩⟩⟩
  have hcall := (hlaw us hsh nost).2 (fun _ => Pl.unborn) W args.toList hsat hrep
  rw [Array.toArray_toList] at hcall
  refine hcall.mono ?_
  rintro e W' ⟨r, σ', μ', val, rfl, ⟨rfl, rfl⟩, _, hs', hr⟩
  simp only [Rep] at hr
  subst hr
  have hbel : Below W.heap.size W W' := ⟨hs'.os, hs'.tape, hs'.output, hs'.size, fun k hk => hs'.same k hk (hno k)⟩
  have hlen : ds.length = f.params.size := by
    have key : ∀ {ts : List TypeId} {vs : List Value} {ds : List (DataW H)} {p : List MemPlace}, DataW.TrodAll enc P W 0 (fun _ => true) true ts vs ds p → ds.length = ts.length := by
      intro ts
      induction ts with
      | nil => intro vs ds p h; cases vs <;> cases ds <;> simp [DataW.TrodAll] at h ⊢
      | cons t ts ih =>
        intro vs ds p h
        obtain ⟨_, _, _, _, _, _, _, rfl, _, _, h2⟩ := trodAll_cons h
        simp [ih h2]
    simpa using key hA
  have hfn' := hfn ds hlen
  refine ⟨.bool true, rfl, post_of_below (pa := p) (pv := []) hW' ?_ ?_ ?_ rfl hbel ?_⟩
  · intro b sp hd
    rw [List.append_nil, hfn', hres]
    exact ⟨[], [], shut_bool htb _, rfl, rfl⟩
  · intro sp hsp
    rw [List.append_nil, hfn']
    refine trodAll_stays hl (fun t ht => (hts' t ht).2) hA hbel (fun x hx => by simpa using hW'.lt x (by simpa using hx)) (fun x hx => hsp x (by simpa using hx))
  · intro sp _
    rw [List.append_nil, hfn', hvars]
    rfl
  · exact ok_one hres rfl (okWide_bool_mk htb _)
end Go.Vc
namespace Go.Vc
open Go.Proofs
set_option maxRecDepth 100000 in
theorem maps_of {α : Type} {f : α → V} {p : α → Prop} : ∀ {rows : List V}, (∀ r ∈ rows, ∃ x, r = f x ∧ p x) → ∃ l : List α, rows = l.map f ∧ ∀ x ∈ l, p x
  | [], _ => ⟨[], rfl, by simp⟩
  | r :: rs, h => by
    obtain ⟨x, rfl, hx⟩ := h r (by simp)
    obtain ⟨l, rfl, hl⟩ := maps_of fun q hq => h q (List.mem_cons_of_mem _ hq)
    exact ⟨x :: l, rfl, by simpa using ⟨hx, hl⟩⟩
def inI (m : Int) : Prop := -9223372036854775808 ≤ m ∧ m ≤ 9223372036854775807
def Sty.inI (s : Sty) : Prop := Vc.inI s.top ∧ Vc.inI s.bottom ∧ Vc.inI s.padTop ∧ Vc.inI s.padBottom ∧ Vc.inI s.inset ∧ Vc.inI s.orphans ∧ Vc.inI s.widows ∧ Vc.inI s.head ∧ Vc.inI s.before ∧ Vc.inI s.after ∧ Vc.inI s.inside ∧ Vc.inI s.clear
def Nd.real (x : Nd) : Prop := (Vc.inI x.kind ∧ Vc.inI x.size ∧ x.st.inI ∧ Vc.inI x.line ∧ Vc.inI x.space ∧ Vc.inI x.side ∧ Vc.inI x.w ∧ Vc.inI x.h) ∧ x.words.length ≤ 17592186043904 ∧ ∀ n ∈ x.words, Vc.inI n
section
variable {P : Program} {n : Nat} {t : TypeId} {vs : List V}
set_option maxRecDepth 100000 in
theorem shpC_int {k : IntKind} (ht : P.underlying t = some (.int k)) (h : ShpC P (n + 1) t vs) : ∃ m, vs = [.int k m] ∧ (Lit.int k m).wf = true := by
  simpa only [ShpC,ht] using h
set_option maxRecDepth 100000 in
theorem shpC_slice {e : TypeId} (ht : P.underlying t = some (.slice e)) (h : ShpC P (n + 1) t vs) : ∃ rows, vs = [.sl (P.cellsOf e) rows] ∧ rows.length * P.bytesOf e ≤ reachBytes ∧ ∀ r ∈ rows, ∃ cs, ShpC P n e cs ∧ r = rowOf (aggT P e) cs := by
  simpa only [ShpC,ht] using h
set_option maxRecDepth 100000 in
theorem shpC_struct {fs : Array Field} (ht : P.underlying t = some (.struct fs)) (h : ShpC P (n + 1) t vs) : ShpFs (ShpC P n) fs.toList vs := by
  simpa only [ShpC,ht] using h
end
set_option maxRecDepth 100000 in
theorem cells_3 : Try.prog.cellsOf 3 = 1 := by kernel_rfl
set_option maxRecDepth 100000 in
theorem cells_28 : Try.prog.cellsOf 42 = 20 := by kernel_rfl
set_option maxRecDepth 100000 in
theorem agg_3 : aggT Try.prog 3 = false := by kernel_rfl
set_option maxRecDepth 100000 in
theorem agg_22 : aggT Try.prog 22 = false := by kernel_rfl
set_option maxRecDepth 100000 in
theorem agg_28 : aggT Try.prog 42 = true := by kernel_rfl
theorem bytes_3 : Try.prog.bytesOf 3 = 8 := by kernel_rfl
theorem bytes_28 : Try.prog.bytesOf 42 = 176 := by kernel_rfl
set_option maxRecDepth 100000 in
theorem shp_int {n : Nat} {vs : List V} (h : ShpC Try.prog (n + 1) 3 vs) : ∃ m, vs = [vI m] ∧ inI m := by
  obtain ⟨m, h, hw⟩ := shpC_int Try.underlying3 h
  exact ⟨m, h, by simp [Lit.wf, IntKind.min, IntKind.max, IntKind.signed, IntKind.bits] at hw; unfold inI; omega⟩
set_option maxRecDepth 100000 in
theorem shp_ints {n : Nat} {vs : List V} (h : ShpC Try.prog (n + 2) 40 vs) : ∃ l, vs = [encI l] ∧ l.length ≤ 17592186043904 ∧ ∀ n ∈ l, inI n := by
  obtain ⟨rows, rfl, hl, h⟩ := shpC_slice Try.underlying40 h
  obtain ⟨l, rfl, hp⟩ := maps_of (f := vI) (p := inI) fun r hr => by
    obtain ⟨cs, hc, rfl⟩ := h r hr
    obtain ⟨m, rfl, hm⟩ := shp_int hc
    exact ⟨m, by rw [agg_3]; rfl, hm⟩
  rw [bytes_3] at hl
  simp only [List.length_map,reachBytes] at hl
  exact ⟨l, by rw [cells_3]; rfl, by omega, hp⟩
set_option maxRecDepth 100000 in
theorem shp_style {n : Nat} {vs : List V} (h : ShpC Try.prog (n + 2) 24 vs) : ∃ s : Sty, vs = s.cells ∧ s.inI := by
  replace h := shpC_struct Try.underlying24 h
  simp only [ShpFs] at h
  obtain ⟨_, _, rfl, h1, _, _, rfl, h2, _, _, rfl, h3, _, _, rfl, h4, _, _, rfl, h5, _, _, rfl, h6, _, _, rfl, h7, _, _, rfl, h8, _, _, rfl, h9, _, _, rfl, h10, _, _, rfl, h11, _, _, rfl, h12, rfl⟩ := h
  obtain ⟨m1, rfl, g1⟩ := shp_int h1
  obtain ⟨m2, rfl, g2⟩ := shp_int h2
  obtain ⟨m3, rfl, g3⟩ := shp_int h3
  obtain ⟨m4, rfl, g4⟩ := shp_int h4
  obtain ⟨m5, rfl, g5⟩ := shp_int h5
  obtain ⟨m6, rfl, g6⟩ := shp_int h6
  obtain ⟨m7, rfl, g7⟩ := shp_int h7
  obtain ⟨m8, rfl, g8⟩ := shp_int h8
  obtain ⟨m9, rfl, g9⟩ := shp_int h9
  obtain ⟨m10, rfl, g10⟩ := shp_int h10
  obtain ⟨m11, rfl, g11⟩ := shp_int h11
  obtain ⟨m12, rfl, g12⟩ := shp_int h12
  exact ⟨⟨m1, m2, m3, m4, m5, m6, m7, m8, m9, m10, m11, m12⟩, rfl, g1, g2, g3, g4, g5, g6, g7, g8, g9, g10, g11, g12⟩
set_option maxRecDepth 100000 in
theorem shp_node {n : Nat} {vs : List V} (h : ShpC Try.prog (n + 3) 42 vs) : ∃ x : Nd, vs = x.cells ∧ x.real := by
  replace h := shpC_struct Try.underlying42 h
  simp only [ShpFs] at h
  obtain ⟨_, _, rfl, h1, _, _, rfl, h2, _, _, rfl, h3, _, _, rfl, h4, _, _, rfl, h5, _, _, rfl, h6, _, _, rfl, h7, _, _, rfl, h8, _, _, rfl, h9, rfl⟩ := h
  obtain ⟨m1, rfl, g1⟩ := shp_int h1
  obtain ⟨m2, rfl, g2⟩ := shp_int h2
  obtain ⟨s, rfl, g3⟩ := shp_style h3
  obtain ⟨m4, rfl, g4⟩ := shp_int h4
  obtain ⟨m5, rfl, g5⟩ := shp_int h5
  obtain ⟨ws, rfl, g6, g6'⟩ := shp_ints h6
  obtain ⟨m7, rfl, g7⟩ := shp_int h7
  obtain ⟨m8, rfl, g8⟩ := shp_int h8
  obtain ⟨m9, rfl, g9⟩ := shp_int h9
  exact ⟨⟨m1, m2, s, m4, m5, ws, m7, m8, m9⟩, rfl, ⟨g1, g2, g3, g4, g5, g7, g8, g9⟩, g6, g6'⟩
set_option maxRecDepth 100000 in
theorem shp_nodes {n : Nat} {vs : List V} (h : ShpC Try.prog (n + 4) 22 vs) : ∃ l, vs = [encNs l] ∧ l.length ≤ 800000000000 ∧ ∀ x ∈ l, x.real := by
  obtain ⟨rows, rfl, hl, h⟩ := shpC_slice Try.underlying22 h
  obtain ⟨l, rfl, hp⟩ := maps_of (f := encN) (p := Nd.real) fun r hr => by
    obtain ⟨cs, hc, rfl⟩ := h r hr
    obtain ⟨x, rfl, hx⟩ := shp_node hc
    exact ⟨x, by rw [agg_28]; rfl, hx⟩
  rw [bytes_28] at hl
  simp only [List.length_map,reachBytes] at hl
  exact ⟨l, by rw [cells_28]; rfl, by omega, hp⟩
set_option maxRecDepth 100000 in
theorem arg_nodes {n : Nat} {vs : List V} (h : ShpC Try.prog (n + 4) 22 vs) : ∃ l, argOf Try.prog 22 vs = encNs l ∧ l.length ≤ 800000000000 ∧ ∀ x ∈ l, x.real := by
  obtain ⟨l, rfl, h1, h2⟩ := shp_nodes h
  exact ⟨l, by unfold argOf; rw [agg_22]; rfl, h1, h2⟩
end Go.Vc
namespace Go.Vc
def rowsF (l : List Nd) : Nat → Nat → Nat → Bool
  | 0, _, _ => true
  | m + 1, a, e => if a < e then
      match l[a]? with
      | none => false
      | some x => if 1 ≤ x.size ∧ x.size ≤ (e : Int) - a then
          (decide (x.kind = 1) || decide (x.size ≤ 1)) && rowsF l m (a + 1) (a + x.size.toNat) && rowsF l m (a + x.size.toNat) e else false
    else true
theorem rowsF_eq (l : List Nd) : ∀ m a e, e - a < m → rowsF l m a e = rowsB l a e
  | 0, _, _, h => by omega
  | m + 1, a, e, h => by
    rw [rowsF, rowsB]
    by_cases hlt : a < e
    · rw [if_pos hlt, dif_pos hlt]
      cases hx : l[a]? with
      | none => rfl
      | some x =>
        simp only
        by_cases hs : 1 ≤ x.size ∧ x.size ≤ (e : Int) - a
        · rw [if_pos hs, dif_pos hs, rowsF_eq l m _ _ (by omega), rowsF_eq l m _ _ (by omega)]
        · rw [if_neg hs, dif_neg hs]
    · rw [if_neg hlt, dif_neg hlt]
def isBF (l : List Nd) : Bool := l.all Nd.ok && rowsF l (l.length + 1) 0 l.length
theorem isB_F (l : List Nd) : isB l = isBF l := by rw [isB, isBF, rowsF_eq l _ _ _ (by omega)]
end Go.Vc
namespace Go.Vc
open Go.Proofs
theorem rowsB_inner (l : List Nd) : ∀ (m a e : Nat), e - a < m → e ≤ l.length → rowsB l a e = true → ∀ k, a ≤ k → (h : k < e) → (h2 : k < l.length) → rowsB l (k + 1) (k + l[k].size.toNat) = true
  | 0, _, _, h, _, _ => by omega
  | m + 1, a, e, hm, he, hr => by
    intro k hk hke h2
    have hae : a < e := by omega
    have ha : a < l.length := by omega
    rw [rowsB, dif_pos hae] at hr
    have hga : l[a]? = some l[a] := by simp [ha]
    rw [hga] at hr
    simp only at hr
    split at hr
    · rename_i hx
      simp only [Bool.and_eq_true] at hr
      obtain ⟨⟨h3, h4⟩, h5⟩ := hr
      by_cases hka : k = a
      · subst hka; exact h4
      · by_cases hin : k < a + l[a].size.toNat
        · exact rowsB_inner l m (a + 1) (a + l[a].size.toNat) (by omega) (by omega) h4 k (by omega) hin h2
        · exact rowsB_inner l m (a + l[a].size.toNat) e (by omega) he h5 k (by omega) hke h2
    · cases hr
def hof (x : Nd) : Int := if x.kind = 1 then x.st.top + x.st.bottom + x.st.padTop + x.st.padBottom + x.st.head else if x.kind = 2 then x.line * x.words.length else x.h
def hsum : List Nd → Int
  | [] => 0
  | x :: l => hof x + hsum l
end Go.Vc
namespace Go.Vc
open Go.Proofs
def V.flat : V → Bool
  | .agg vs => vs.all V.lone
  | v => v.lone
theorem RepAll.lone {μ μ' : Mu} {ow ow' : Nat → Prop} {w w' : World} : ∀ {vs : List V} {l : List Value}, vs.all V.lone = true → RepAll μ ow w vs l → RepAll μ' ow' w' vs l
  | [], l, _, h => by simpa [RepAll] using h
  | v :: vs, l, hv, h => by
    simp only [List.all_cons,Bool.and_eq_true] at hv
    simp only [RepAll] at h ⊢
    obtain ⟨x, xs, rfl, h1, h2⟩ := h
    exact ⟨x, xs, rfl, Rep.lone hv.1 h1, RepAll.lone hv.2 h2⟩
theorem Rep.flat {μ μ' : Mu} {ow ow' : Nat → Prop} {w w' : World} {v : V} {x : Value} (hv : v.flat = true) (h : Rep μ ow w v x) : Rep μ' ow' w' v x := by
  cases v <;> try exact Rep.lone hv h
  rename_i vs
  simp only [Rep] at h ⊢
  obtain ⟨vals, rfl, h1, h2⟩ := h
  exact ⟨vals, rfl, RepAll.lone hv h1, h2⟩
theorem RepAll.flat {μ μ' : Mu} {ow ow' : Nat → Prop} {w w' : World} : ∀ {vs : List V} {l : List Value}, vs.all V.flat = true → RepAll μ ow w vs l → RepAll μ' ow' w' vs l
  | [], l, _, h => by simpa [RepAll] using h
  | v :: vs, l, hv, h => by
    simp only [List.all_cons,Bool.and_eq_true] at hv
    simp only [RepAll] at h ⊢
    obtain ⟨x, xs, rfl, h1, h2⟩ := h
    exact ⟨x, xs, rfl, Rep.flat hv.1 h1, RepAll.flat hv.2 h2⟩
theorem sliceV_encNs {σ : Store} {l : List Nd} {s e : Int} (h1 : 0 ≤ s) (h2 : s ≤ e) (h3 : e ≤ l.length) :
    sliceV σ 20 (encNs l) (some (.int .i64 s)) (some (.int .i64 e)) none = some (encNs ((l.drop s.toNat).take (e.toNat - s.toNat))) := by
  simp only [encNs,sliceV,boundV,List.length_map]
  rw [if_pos ⟨h1, h2, h3, Int.le_refl _, trivial⟩]
  simp [List.map_take, List.map_drop]
end Go.Vc
namespace Go.Vc
open Go.Proofs
def kidsW (l : List Nd) (a e : Nat) : List Int :=
  if _h : a < e then
    match l[a]? with
    | none => []
    | some x => if _hx : 1 ≤ x.size then (a : Int) :: kidsW l (a + x.size.toNat) e else []
  else []
termination_by e - a
decreasing_by omega
theorem kidsW_cons {l : List Nd} {a e : Nat} (h : a < e) (hl : a < l.length) (hs : 1 ≤ l[a].size) : kidsW l a e = (a : Int) :: kidsW l (a + l[a].size.toNat) e := by
  rw [kidsW, dif_pos h]
  simp only [List.getElem?_eq_getElem hl]
  rw [dif_pos hs]
theorem kidsW_nil {l : List Nd} {a e : Nat} (h : e ≤ a) : kidsW l a e = [] := by
  rw [kidsW, dif_neg (by omega)]
theorem rowsB_ends {l : List Nd} {a e : Nat} (he : e ≤ l.length) (h : rowsB l a e = true) {k : Nat} (h1 : a ≤ k) (h2 : k < e) : (k : Int) + szI l k ≤ e ∧ 1 ≤ szI l k := by
  have := rowsB_size l (e - a + 1) a e (by omega) he h k h1 h2 (by omega)
  rw [szI_eq (by omega)]
  omega
theorem rowsB_next {l : List Nd} {a e : Nat} (he : e ≤ l.length) (h : rowsB l a e = true) (hae : a < e) : rowsB l (a + (szI l a).toNat) e = true ∧ rowsB l (a + 1) (a + (szI l a).toNat) = true := by
  have ha : a < l.length := by omega
  rw [rowsB, dif_pos hae] at h
  simp only [List.getElem?_eq_getElem ha] at h
  rw [szI_eq ha]
  split at h
  · simp only [Bool.and_eq_true] at h
    exact ⟨h.2, h.1.2⟩
  · cases h
theorem parD_none {l : List Nd} {b : Nat} (hb : b < l.length) : ∀ k, k ≤ b → (∀ i, i < k → (i : Int) + szI l i ≤ b) → parD l b k = -1
  | 0, _, _ => rfl
  | k + 1, hk, h => by
    rw [parD, if_neg, parD_none hb k (by omega) (fun i hi => h i (by omega))]
    have := h k (by omega)
    simp only [holdsI,Bool.and_eq_true,decide_eq_true_eq,not_and]
    intro _ _ _
    simp
    omega
theorem parD_is {l : List Nd} {b p : Nat} (hb : b < l.length) (hpb : (b : Int) < p + szI l p) : ∀ k, p < k → k ≤ b → (∀ i, p < i → i < k → (i : Int) + szI l i ≤ b) → parD l b k = p
  | 0, h, _, _ => by omega
  | k + 1, h, hk, hh => by
    by_cases e : k = p
    · subst e
      rw [parD, if_pos]
      simp only [holdsI,Bool.and_eq_true,decide_eq_true_eq,hasI]
      simp
      omega
    · rw [parD, if_neg, parD_is hb hpb k (by omega) (by omega) (fun i h1 h2 => hh i h1 (by omega))]
      have := hh k (by omega) (by omega)
      simp only [holdsI,Bool.and_eq_true,decide_eq_true_eq,not_and]
      intro _ _ _
      simp
      omega
theorem parD_ge {l : List Nd} {b t : Nat} (hb : b < l.length) (ht : (b : Int) < t + szI l t) : ∀ k, t < k → k ≤ b → (t : Int) ≤ parD l b k
  | 0, h, _ => by omega
  | k + 1, h, hk => by
    rw [parD]
    split
    · omega
    · rename_i hn
      by_cases e : k = t
      · subst e
        exfalso
        apply hn
        simp only [holdsI,Bool.and_eq_true,decide_eq_true_eq,hasI]
        simp
        omega
      · exact parD_ge hb ht k (by omega) (by omega)
def Around (l : List Nd) (p : Int) (a e : Nat) : Prop := (p = -1 ∧ a = 0) ∨ ∃ q : Nat, p = q ∧ a = q + 1 ∧ (e : Int) = q + szI l q
theorem kidsW_filter {l : List Nd} {p : Int} {a e : Nat} (he : e ≤ l.length) (hA : Around l p a e) : ∀ (m b : Nat), e - b < m → a ≤ b → b ≤ e → rowsB l b e = true → (∀ i, a ≤ i → i < b → (i : Int) + szI l i ≤ b) →
    ((List.range' b (e - b)).filter fun i => decide (parR l i = p)).map (fun (i : Nat) => (i : Int)) = kidsW l b e
  | 0, _, h, _, _, _, _ => by omega
  | m + 1, b, hm, hab, hbe, hr, hpre => by
    by_cases hlt : b < e
    · have hb : b < l.length := by omega
      obtain ⟨hend, hone⟩ := rowsB_ends he hr (Nat.le_refl b) hlt
      obtain ⟨hr2, hin⟩ := rowsB_next he hr hlt
      have hs : 1 ≤ l[b].size := by rw [← szI_eq hb]; exact hone
      rw [kidsW_cons hlt hb hs, ← szI_eq hb]
      have htn : ((szI l b).toNat : Int) = szI l b := by omega
      generalize hz : (szI l b).toNat = z at *
      have hz1 : 1 ≤ z := by omega
      have e1 : e - b = z + (e - (b + z)) := by omega
      rw [e1, ← List.range'_append_1]
      rw [List.filter_append, List.map_append]
      have ih := kidsW_filter he hA m (b + z) (by omega) (by omega) (by omega) hr2 (fun i h1 h2 => by
        by_cases e2 : i < b
        · have := hpre i h1 e2; omega
        · by_cases e3 : i = b
          · subst e3; omega
          · have := (rowsB_ends (by omega) hin (k := i) (by omega) h2).1; omega)
      rw [ih]
      have hhead : ((List.range' b z).filter fun i => decide (parR l i = p)) = [b] := by
        obtain ⟨z', rfl⟩ : ∃ z', z = z' + 1 := ⟨z - 1, by omega⟩
        rw [List.range'_succ, List.filter_cons]
        have hp : parR l b = p := by
          rcases hA with ⟨rfl, rfl⟩ | ⟨q, rfl, rfl, hq⟩
          · exact parD_none hb b (Nat.le_refl _) (fun i hi => hpre i (by omega) hi)
          · exact parD_is hb (by omega) b (by omega) (Nat.le_refl _) (fun i h1 h2 => hpre i (by omega) h2)
        rw [if_pos (by simpa using hp)]
        have : (List.range' (b + 1) z').filter (fun i => decide (parR l i = p)) = [] := by
          rw [List.filter_eq_nil_iff]
          intro i hi
          rw [List.mem_range'_1] at hi
          have h1 : (b : Int) ≤ parR l i := parD_ge (by omega) (by omega) i (by omega) (Nat.le_refl _)
          have h2 : p < b := by rcases hA with ⟨rfl, rfl⟩ | ⟨q, rfl, rfl, hq⟩ <;> omega
          simp; omega
        rw [this]
      rw [hhead]
      rfl
    · have : e = b := by omega
      subst this
      rw [kidsW_nil (Nat.le_refl _)]
      simp
theorem kidsR_top {l : List Nd} (hb : isB l = true) : kidsR l (-1) = kidsW l 0 l.length := by
  simp only [isB,Bool.and_eq_true] at hb
  have := kidsW_filter (l := l) (p := -1) (a := 0) (Nat.le_refl _) (.inl ⟨rfl, rfl⟩) (l.length + 1) 0 (by omega) (by omega) (by omega) hb.2 (fun i _ h => by omega)
  rw [← this, kidsR, List.range_eq_range']
  simp
theorem kidsR_in {l : List Nd} (hb : isB l = true) {p : Nat} (hp : p < l.length) : kidsR l p = kidsW l (p + 1) (p + (szI l p).toNat) := by
  simp only [isB,Bool.and_eq_true] at hb
  obtain ⟨h1, h2⟩ := rowsB_ends (Nat.le_refl _) hb.2 (Nat.zero_le p) hp
  have hin := rowsB_inner l (l.length + 1) 0 l.length (by omega) (Nat.le_refl _) hb.2 p (by omega) hp hp
  rw [← szI_eq hp] at hin
  have hz : ((szI l p).toNat : Int) = szI l p := by omega
  generalize hze : (szI l p).toNat = z at *
  have := kidsW_filter (l := l) (p := (p : Int)) (a := p + 1) (e := p + z) (by omega) (.inr ⟨p, rfl, rfl, by omega⟩) (l.length + 1) (p + 1) (by omega) (by omega) (by omega) hin (fun i _ h => by omega)
  rw [← this, kidsR, List.range_eq_range']
  have e2 : List.range' 0 l.length = List.range' 0 (p + 1) ++ (List.range' (p + 1) (p + z - (p + 1)) ++ List.range' (p + z) (l.length - (p + z))) := by
    have a1 := List.range'_append_1 (s := p + 1) (m := p + z - (p + 1)) (n := l.length - (p + z))
    have a2 := List.range'_append_1 (s := 0) (m := p + 1) (n := (p + z - (p + 1)) + (l.length - (p + z)))
    rw [show p + 1 + (p + z - (p + 1)) = p + z by omega] at a1
    rw [Nat.zero_add] at a2
    rw [a1, a2]
    congr 1
    omega
  have hA : (List.range' 0 (p + 1)).filter (fun i => decide (parR l i = (p : Int))) = [] := by
    rw [List.filter_eq_nil_iff]
    intro i hi
    rw [List.mem_range'_1] at hi
    have h3 := parD_range l i i
    intro hh
    have hh := of_decide_eq_true hh
    unfold parR at hh
    omega
  have hC : (List.range' (p + z) (l.length - (p + z))).filter (fun i => decide (parR l i = (p : Int))) = [] := by
    rw [List.filter_eq_nil_iff]
    intro i hi
    rw [List.mem_range'_1] at hi
    simp only [decide_eq_true_eq]
    intro hpar
    have : ∀ k, k ≤ i → parD l i k = (p : Int) → holdsI l p i = true := by
      intro k
      induction k with
      | zero => intro _ h; simp only [parD] at h; omega
      | succ k ih =>
        intro hk h
        rw [parD] at h
        split at h
        · rename_i hh
          have : k = p := by omega
          subst this
          exact hh
        · exact ih (by omega) h
    have := this i (Nat.le_refl _) hpar
    simp only [holdsI,Bool.and_eq_true,decide_eq_true_eq] at this
    have h5 := this.2.2.2
    rw [Int.toNat_natCast] at h5
    omega
  rw [e2, List.filter_append, List.filter_append, hA, hC]
  simp
end Go.Vc
namespace Go.Vc
open Go.Proofs
set_option maxRecDepth 100000 in
theorem tree_c (l : List Nd) (hl : Fine l) (hb : isB l = true) : PFun Try.prog 63 [encNs l] (.agg [encNs l]) := fun σ => by
  refine Contract.of_runs Try.func63 e63 k63 (by simp [c63]) ?_
  refine Runs.mix 3 ?_
  (refine Runs.of_step Orc.nothing 300 ?_; simp -implicitDefEqProofs only [BB,seval,← decide_not,okind,vpre,vpure,intBin,intPre,strBin,strPre,popTo,argSlots,fldV,fldAV,subCells,idxVV,idxAAV,idxSV,sliceV,sliceSV,boundV,szIs,storeOp,storeS,setRowV,eff,extV,buildV,splice,eqSV,fitsL,eqCells,eqCell,minmaxV,capV,binBV,nilCheckV,bytesV,V.cells,V.stays,Orc.nothing,c63])
  refine effR_new fun id2 σ1 s1 a2 f2 => ?_
  simp -implicitDefEqProofs only [BB,seval,← decide_not,okind,vpre,vpure,intBin,intPre,strBin,strPre,popTo,argSlots,fldV,fldAV,subCells,idxVV,idxAAV,idxSV,sliceV,sliceSV,boundV,szIs,storeOp,storeS,setRowV,eff,extV,buildV,splice,eqSV,fitsL,eqCells,eqCell,minmaxV,capV,binBV,nilCheckV,bytesV,V.cells,V.stays,a2]
  refine Runs.pcall rfl rfl rfl (isv_c l hl _) ?_
  (refine Runs.of_step Orc.nothing 300 ?_; simp -implicitDefEqProofs only [BB,seval,← decide_not,okind,vpre,vpure,intBin,intPre,strBin,strPre,popTo,argSlots,fldV,fldAV,subCells,idxVV,idxAAV,idxSV,sliceV,sliceSV,boundV,szIs,storeOp,storeS,setRowV,eff,extV,buildV,splice,eqSV,fitsL,eqCells,eqCell,minmaxV,capV,binBV,nilCheckV,bytesV,V.cells,V.stays,Orc.nothing,hb,a2,encNs])
  refine RetV.pure (s1.updK f2) rfl
set_option maxRecDepth 100000 in
theorem has9_c (l : List Nd) (a : Int) : PFun Try.prog 64 [encNs l, vI a] (.bool (hasI l a)) := fun σ => by
  refine Contract.of_runs Try.func64 e64 k64 (by simp [c64]) ?_
  refine Runs.mix 6 ?_
  (refine Runs.of_step Orc.nothing 300 ?_; simp -implicitDefEqProofs only [BB,seval,effR_some,effD_some,← decide_not,okind,vpre,vpure,intBin,intPre,strBin,strPre,popTo,argSlots,fldV,fldAV,subCells,idxVV,idxAAV,idxSV,sliceV,sliceSV,boundV,szIs,storeOp,storeS,setRowV,eff,extV,buildV,splice,eqSV,fitsL,eqCells,eqCell,minmaxV,capV,binBV,nilCheckV,bytesV,V.cells,V.stays,Orc.nothing,c64,lenV_encNs])
  refine And.intro (fun h => ?_) (fun h => ?_)
  · refine RetV.same ?_
    simp [hasI]; omega
  · refine RetV.same ?_
    simp [hasI]; omega
set_option maxRecDepth 100000 in
theorem parent9_c (l : List Nd) (hl : Fine l) (hb : isB l = true) (a : Nat) (ha : a < l.length) : PFun Try.prog 82 [encNs l, vI a] (vI (parR l a)) := fun σ => by
  have hl1 := hl.1
  refine Contract.of_runs Try.func82 e82 k82 (by simp [c82]) ?_
  refine Runs.mix 6 ?_
  (refine Runs.of_step Orc.nothing 300 ?_; simp -implicitDefEqProofs only [BB,seval,effR_some,effD_some,← decide_not,okind,vpre,vpure,intBin,intPre,strBin,strPre,popTo,argSlots,fldV,fldAV,subCells,idxVV,idxAAV,idxSV,sliceV,sliceSV,boundV,szIs,storeOp,storeS,setRowV,eff,extV,buildV,splice,eqSV,fitsL,eqCells,eqCell,minmaxV,capV,binBV,nilCheckV,bytesV,V.cells,V.stays,Orc.nothing,c82])
  refine ⟨inR_i64 (by omega) (by omega), ?_⟩
  refine Runs.loop (fun m st => ∃ (k : Nat), k ≤ a ∧ m = k ∧ parR l a = parD l a k ∧ st.σ = σ ∧ st.s 0 = encNs l ∧ st.s 1 = vI a ∧ st.s 5 = vI ((k : Int) - 1)) a ?_ ?_
  · exact ⟨a, by omega, rfl, rfl, rfl, rfl, rfl, rfl⟩
  · rintro m ⟨s, σ'⟩ ⟨k, hk, rfl, heq, hσ, h0, h1, h5⟩
    simp only at hσ h0 h1 h5
    subst hσ
    refine Runs.mix 6 ?_
    (refine Runs.of_step Orc.nothing 300 ?_; simp -implicitDefEqProofs only [BB,seval,effR_some,effD_some,← decide_not,okind,vpre,vpure,intBin,intPre,strBin,strPre,popTo,argSlots,fldV,fldAV,subCells,idxVV,idxAAV,idxSV,sliceV,sliceSV,boundV,szIs,storeOp,storeS,setRowV,eff,extV,buildV,splice,eqSV,fitsL,eqCells,eqCell,minmaxV,capV,binBV,nilCheckV,bytesV,V.cells,V.stays,Orc.nothing,h0,h1,h5])
    refine And.intro (fun h => ?_) (fun h => ?_)
    · obtain ⟨k, rfl⟩ : ∃ j, m = j + 1 := ⟨m - 1, by omega⟩
      have e1 : ((k + 1 : Nat) : Int) - 1 = k := by omega
      have hlt : k < l.length := by omega
      have hsz := szI_bound hb hlt
      have hse := szI_eq hlt
      have hx := idxAV_encNs (σ := σ') hlt
      simp -implicitDefEqProofs only [BB,seval,effR_some,effD_some,← decide_not,okind,vpre,vpure,intBin,intPre,strBin,strPre,popTo,argSlots,fldV,fldAV,subCells,idxVV,idxAAV,idxSV,sliceV,sliceSV,boundV,szIs,storeOp,storeS,setRowV,eff,extV,buildV,splice,eqSV,fitsL,eqCells,eqCell,minmaxV,capV,binBV,nilCheckV,bytesV,V.cells,V.stays,e1,hx,Nd.cells,h0,h1,h5]
      rw [← hse]
      refine ⟨inR_i64 (by omega) (by omega), And.intro (fun hc => ?_) (fun hc => ?_)⟩
      · refine RetV.same ?_
        rw [heq, parD, if_pos]
        simp only [holdsI,Bool.and_eq_true,decide_eq_true_eq,hasI]
        simp
        omega
      · refine ⟨inR_i64 (by omega) (by omega), _, ?_, k, by omega, rfl, ?_, rfl⟩
        · omega
        · rw [heq, parD, if_neg]
          simp only [holdsI,Bool.and_eq_true,decide_eq_true_eq,hasI]
          simp
          omega
    · have hk0 : m = 0 := by omega
      subst hk0
      refine RetV.same ?_
      rw [heq]; rfl
set_option maxRecDepth 100000 in
theorem kids9_c (l : List Nd) (hl : Fine l) (hb : isB l = true) (a : Int) (ha : a = -1 ∨ hasI l a = true) (σ : Store) :
    Contract Try.prog 45 [encNs l, vI a] σ fun r σ' => SubStore σ σ' ∧ OutV σ σ' 3 1 r ((kidsR l a).map vI) := by
  have hl1 := hl.1
  have hrows : rowsB l 0 l.length = true := by simp only [isB,Bool.and_eq_true] at hb; exact hb.2
  refine Contract.of_runs Try.func45 e45 k45 (by simp [c45]) ?_
  refine Runs.mix 9 ?_
  (refine Runs.of_step Orc.nothing 300 ?_; simp -implicitDefEqProofs only [BB,seval,← decide_not,okind,vpre,vpure,intBin,intPre,strBin,strPre,popTo,argSlots,fldV,fldAV,subCells,idxVV,idxAAV,idxSV,sliceV,sliceSV,boundV,szIs,storeOp,storeS,setRowV,eff,extV,buildV,splice,eqSV,fitsL,eqCells,eqCell,minmaxV,capV,binBV,nilCheckV,bytesV,V.cells,V.stays,Orc.nothing,c45])
  refine Runs.pcall rfl rfl rfl (tree_c l hl hb _) ?_
  (refine Runs.of_step Orc.nothing 300 ?_; simp -implicitDefEqProofs only [BB,seval,← decide_not,okind,vpre,vpure,intBin,intPre,strBin,strPre,popTo,argSlots,fldV,fldAV,subCells,idxVV,idxAAV,idxSV,sliceV,sliceSV,boundV,szIs,storeOp,storeS,setRowV,eff,extV,buildV,splice,eqSV,fitsL,eqCells,eqCell,minmaxV,capV,binBV,nilCheckV,bytesV,V.cells,V.stays,Orc.nothing,encNs_cells,encNs_stays])
  refine effR_new fun id5 σ1 s1 a5 f5 => ?_
  have hfold : V.sl 20 (l.map encN) = encNs l := rfl
  simp -implicitDefEqProofs only [BB,seval,← decide_not,okind,vpre,vpure,intBin,intPre,strBin,strPre,popTo,argSlots,fldV,fldAV,subCells,idxVV,idxAAV,idxSV,sliceV,sliceSV,boundV,szIs,storeOp,storeS,setRowV,eff,extV,buildV,splice,eqSV,fitsL,eqCells,eqCell,minmaxV,capV,binBV,nilCheckV,bytesV,V.cells,V.stays,a5,hfold,encNs_cells,encNs_stays,lenV_encNs]
  refine And.intro (fun h => ?gA) (fun h => ?gB)
  case' gA =>
    have hh : hasI l a = true := by rcases ha with rfl | ha; exact absurd rfl h; exact ha
    obtain ⟨p, rfl⟩ : ∃ p : Nat, a = p := ⟨a.toNat, by have := hasI_iff.1 hh; omega⟩
    have hp : p < l.length := by have := hasI_iff.1 hh; omega
    have hx := idxAV_encNs (σ := σ1) hp
    obtain ⟨z1, z2⟩ := szI_bound hb hp
    have hse := szI_eq hp
    have hk := kidsR_in hb hp
    obtain ⟨z3, _⟩ := rowsB_ends (Nat.le_refl _) hrows (Nat.zero_le p) hp
    have hin := rowsB_inner l (l.length + 1) 0 l.length (by omega) (Nat.le_refl _) hrows p (by omega) hp hp
    rw [← hse] at hin
    have hz : (szI l p) = ((szI l p).toNat : Int) := by omega
    refine Runs.pcall rfl rfl rfl (has9_c l _ _) ?_
    (refine Runs.of_step Orc.nothing 300 ?_; simp -implicitDefEqProofs only [BB,seval,← decide_not,okind,vpre,vpure,intBin,intPre,strBin,strPre,popTo,argSlots,fldV,fldAV,subCells,idxVV,idxAAV,idxSV,sliceV,sliceSV,boundV,szIs,storeOp,storeS,setRowV,eff,extV,buildV,splice,eqSV,fitsL,eqCells,eqCell,minmaxV,capV,binBV,nilCheckV,bytesV,V.cells,V.stays,Orc.nothing,hh,idxAV_encNs hp,Nd.cells,a5])
    rw [← hse]
    refine ⟨inR_i64 (by omega) (by omega), inR_i64 (by omega) (by omega), ?_⟩
    have hbeg : ∃ a0 e : Nat, e ≤ l.length ∧ a0 ≤ e ∧ rowsB l a0 e = true ∧ kidsR l p = kidsW l a0 e ∧ (p : Int) + 1 = a0 ∧ (p : Int) + szI l p = e :=
      ⟨p + 1, p + (szI l p).toNat, by omega, by omega, hin, hk, by omega, by omega⟩
    obtain ⟨a0, e, he, hae, hr, hk, e1, e2⟩ := hbeg
    rw [e1, e2]
  case' gB =>
    have ha1 : a = -1 := by omega
    subst ha1
    have hbeg : ∃ a0 e : Nat, e ≤ l.length ∧ a0 ≤ e ∧ rowsB l a0 e = true ∧ kidsR l (-1) = kidsW l a0 e ∧ (0 : Int) = a0 ∧ (l.length : Int) = e :=
      ⟨0, l.length, by omega, by omega, hrows, kidsR_top hb, by omega, by omega⟩
    obtain ⟨a0, e, he, hae, hr, hk, e1, e2⟩ := hbeg
  case gA | gB =>
    refine Runs.loop (fun m st => ∃ (b : Nat) (out : List Int), a0 ≤ b ∧ b ≤ e ∧ m = e - b ∧ rowsB l b e = true ∧ kidsW l a0 e = out ++ kidsW l b e ∧ out.length ≤ b - a0 ∧ SubStore σ st.σ ∧ OutV σ st.σ 3 1 (st.s 8) (out.map vI) ∧ st.s 0 = encNs l ∧ st.s 6 = vI b ∧ st.s 7 = vI e) (e - a0) ?_ ?_
    · exact ⟨a0, [], by omega, by omega, rfl, hr, rfl, by simp, s1.updK f5, OutV.start, rfl, by first | rfl | exact congrArg vI e1, by first | rfl | exact congrArg vI e2⟩
    · rintro m ⟨s, σ'⟩ ⟨b, out, hab, hbe, rfl, hrb, heq, hlen, hsub, hout, h0, h6, h7⟩
      simp only at hsub hout h0 h6 h7
      refine Runs.mix 9 ?_
      (refine Runs.of_step Orc.nothing 300 ?_; simp -implicitDefEqProofs only [BB,seval,← decide_not,okind,vpre,vpure,intBin,intPre,strBin,strPre,popTo,argSlots,fldV,fldAV,subCells,idxVV,idxAAV,idxSV,sliceV,sliceSV,boundV,szIs,storeOp,storeS,setRowV,eff,extV,buildV,splice,eqSV,fitsL,eqCells,eqCell,minmaxV,capV,binBV,nilCheckV,bytesV,V.cells,V.stays,Orc.nothing,h0,h6,h7])
      refine And.intro (fun h => ?_) (fun h => ?_)
      · have hlt : b < e := by omega
        have hbl : b < l.length := by omega
        have hse2 := szI_eq hbl
        obtain ⟨y1, y2⟩ := rowsB_ends he hrb (Nat.le_refl b) hlt
        obtain ⟨hr2, _⟩ := rowsB_next he hrb hlt
        have hc := kidsW_cons hlt hbl (by omega)
        refine effD_new fun id1 σ2 s2 a1 f1 => ?_
        obtain ⟨idA, hd, hdel⟩ := hout.dst s2
        have hb2 : (out.length + 1) * 9 ≤ 140737488355328 := by omega
        simp -implicitDefEqProofs only [BB,seval,← decide_not,okind,vpre,vpure,intBin,intPre,strBin,strPre,popTo,argSlots,fldV,fldAV,subCells,idxVV,idxAAV,idxSV,sliceV,sliceSV,boundV,szIs,storeOp,storeS,setRowV,eff,extV,buildV,splice,eqSV,fitsL,eqCells,eqCell,minmaxV,capV,binBV,nilCheckV,bytesV,V.cells,V.stays,hd,srcOne a1,List.length_map,hb2,h0,h6,h7]
        refine effD_put fun id2 σ3 s3 a2 f2 => ?_
        have hs3 := (hdel σ (SubStore.refl σ) σ2 (hsub.trans s2)).trans s3
        have hx := idxAV_encNs (σ := σ3) hbl
        simp -implicitDefEqProofs only [BB,seval,← decide_not,okind,vpre,vpure,intBin,intPre,strBin,strPre,popTo,argSlots,fldV,fldAV,subCells,idxVV,idxAAV,idxSV,sliceV,sliceSV,boundV,szIs,storeOp,storeS,setRowV,eff,extV,buildV,splice,eqSV,fitsL,eqCells,eqCell,minmaxV,capV,binBV,nilCheckV,bytesV,V.cells,V.stays,hx,Nd.cells,h0,h6,h7]
        rw [← hse2]
        refine ⟨inR_i64 (by omega) (by omega), _, ?_, b + (szI l b).toNat, out ++ [(b : Int)], by omega, by omega, rfl, hr2, ?_, by simp; omega, hs3, ?_, ?_⟩
        · omega
        · rw [heq, hc, hse2]; simp
        · exact OutV.new (by simp) (by rw [a2]; simp) ((hsub.trans s2).none f2)
        · refine congrArg (V.int .i64) ?_
          omega
      · have hbe2 : b = e := by omega
        subst hbe2
        rw [kidsW_nil (Nat.le_refl _), List.append_nil] at heq
        refine ⟨_, _, SubStore.refl _, Wk.refl (SubStore.refl _) _, hsub, ?_⟩
        rw [hk, heq]
        exact hout
theorem kids9_p (l : List Nd) (hl : Fine l) (hb : isB l = true) (a : Int) (ha : a = -1 ∨ hasI l a = true) : PFun Try.prog 45 [encNs l, vI a] (encI (kidsR l a)) := fun σ =>
  (kids9_c l hl hb a ha σ).weak fun _ _ h => h.2.retv h.1 rfl
end Go.Vc
namespace Go.Vc
open Go.Proofs
def encH (x : Ed) (l : List Nd) : V := .agg [.int .i64 x.kind, .int .i64 x.into, .int .i64 x.pos, .int .i64 x.many, encNs x.sub, .int .i64 x.st.top, .int .i64 x.st.bottom, .int .i64 x.st.padTop, .int .i64 x.st.padBottom, .int .i64 x.st.inset, .int .i64 x.st.orphans, .int .i64 x.st.widows, .int .i64 x.st.head, .int .i64 x.st.before, .int .i64 x.st.after, .int .i64 x.st.inside, .int .i64 x.st.clear, encNs l]
def idxI (a : Int) : List Int → Nat → Int
  | [], _ => -1
  | q :: r, i => if a = q then i else idxI a r (i + 1)
theorem idxI_drop {a : Int} {p : List Int} {i : Nat} (h : i < p.length) : idxI a (p.drop i) i = if a = p[i] then (i : Int) else idxI a (p.drop (i + 1)) (i + 1) := by
  rw [List.drop_eq_getElem_cons h, idxI]
set_option maxRecDepth 100000 in
theorem index_c (p : List Int) (hp : p.length ≤ 1000000000) (a : Int) : PFun Try.prog 44 [encI p, vI a] (vI (idxI a p 0)) := fun σ => by
  refine Contract.of_runs Try.func44 e44 k44 (by simp [c44]) ?_
  refine Runs.mix 9 ?_
  (refine Runs.of_step Orc.nothing 300 ?_; simp -implicitDefEqProofs only [BB,seval,effR_some,effD_some,← decide_not,okind,vpre,vpure,intBin,intPre,strBin,strPre,popTo,argSlots,fldV,fldAV,subCells,idxVV,idxAAV,idxSV,sliceV,sliceSV,boundV,szIs,storeOp,storeS,setRowV,eff,extV,buildV,splice,eqSV,fitsL,eqCells,eqCell,minmaxV,capV,binBV,nilCheckV,bytesV,V.cells,V.stays,Orc.nothing,c44,lenV_encI])
  refine Runs.loop (fun m st => ∃ (i : Nat), i ≤ p.length ∧ m = p.length - i ∧ idxI a p 0 = idxI a (p.drop i) i ∧ st.σ = σ ∧ st.s 0 = encI p ∧ st.s 1 = vI a ∧ st.s 7 = vI p.length ∧ st.s 8 = vI i) p.length ?_ ?_
  · exact ⟨0, by omega, rfl, rfl, rfl, rfl, rfl, rfl, rfl⟩
  · rintro m ⟨s, σ'⟩ ⟨i, hi, rfl, heq, hσ, h0, h1, h7, h8⟩
    simp only at hσ h0 h1 h7 h8
    subst hσ
    refine Runs.mix 9 ?_
    (refine Runs.of_step Orc.nothing 300 ?_; simp -implicitDefEqProofs only [BB,seval,effR_some,effD_some,← decide_not,okind,vpre,vpure,intBin,intPre,strBin,strPre,popTo,argSlots,fldV,fldAV,subCells,idxVV,idxAAV,idxSV,sliceV,sliceSV,boundV,szIs,storeOp,storeS,setRowV,eff,extV,buildV,splice,eqSV,fitsL,eqCells,eqCell,minmaxV,capV,binBV,nilCheckV,bytesV,V.cells,V.stays,Orc.nothing,h0,h1,h7,h8])
    refine And.intro (fun h => ?_) (fun h => ?_)
    · have hlt : i < p.length := by omega
      have hd := idxI_drop (a := a) hlt
      simp -implicitDefEqProofs only [BB,seval,effR_some,effD_some,← decide_not,okind,vpre,vpure,intBin,intPre,strBin,strPre,popTo,argSlots,fldV,fldAV,subCells,idxVV,idxAAV,idxSV,sliceV,sliceSV,boundV,szIs,storeOp,storeS,setRowV,eff,extV,buildV,splice,eqSV,fitsL,eqCells,eqCell,minmaxV,capV,binBV,nilCheckV,bytesV,V.cells,V.stays,idxAV_encI hlt,h0,h1,h7,h8]
      refine And.intro (fun hc => ?_) (fun hc => ?_)
      · refine RetV.same ?_
        rw [heq, hd, if_pos (by simpa using hc)]
      · refine ⟨inR_i64 (by omega) (by omega), _, ?_, i + 1, by omega, rfl, ?_, by simp⟩
        · omega
        · rw [heq, hd, if_neg (by simpa using hc)]
    · have hie : i = p.length := by omega
      refine RetV.same ?_
      rw [heq, hie, List.drop_length]; rfl
set_option maxRecDepth 100000 in
theorem block9_c (x : Ed) (l : List Nd) (a : Int) : PFun Try.prog 42 [encH x l, vI a] (.bool (blockR l a)) := fun σ => by
  refine Contract.of_runs Try.func42 e42 k42 (by simp [c42]) ?_
  refine Runs.mix 6 ?_
  (refine Runs.of_step Orc.nothing 300 ?_; simp -implicitDefEqProofs only [BB,seval,← decide_not,okind,vpre,vpure,intBin,intPre,strBin,strPre,popTo,argSlots,fldV,fldAV,subCells,idxVV,idxAAV,idxSV,sliceV,sliceSV,boundV,szIs,storeOp,storeS,setRowV,eff,extV,buildV,splice,eqSV,fitsL,eqCells,eqCell,minmaxV,capV,binBV,nilCheckV,bytesV,V.cells,V.stays,Orc.nothing,c42,encH,encNs_cells,encNs_stays])
  refine effR_new fun id2 σ1 s1 a2 f2 => ?_
  simp -implicitDefEqProofs only [BB,seval,← decide_not,okind,vpre,vpure,intBin,intPre,strBin,strPre,popTo,argSlots,fldV,fldAV,subCells,idxVV,idxAAV,idxSV,sliceV,sliceSV,boundV,szIs,storeOp,storeS,setRowV,eff,extV,buildV,splice,eqSV,fitsL,eqCells,eqCell,minmaxV,capV,binBV,nilCheckV,bytesV,V.cells,V.stays,a2,encNs_cells,encNs_stays,lenV_encNs]
  refine And.intro (fun h0 => And.intro (fun h1 => ?_) (fun h1 => ?_)) (fun h0 => ?_)
  · have hlt : a.toNat < l.length := by omega
    simp -implicitDefEqProofs only [BB,seval,← decide_not,okind,vpre,vpure,intBin,intPre,strBin,strPre,popTo,argSlots,fldV,fldAV,subCells,idxVV,idxAAV,idxSV,sliceV,sliceSV,boundV,szIs,storeOp,storeS,setRowV,eff,extV,buildV,splice,eqSV,fitsL,eqCells,eqCell,minmaxV,capV,binBV,nilCheckV,bytesV,V.cells,V.stays,idxAV_encNsI h0 hlt,Nd.cells]
    refine RetV.pure s1 ?_
    have : hasI l a = true := hasI_iff.2 ⟨by omega, by omega⟩
    simp [blockR, this, kdI_eq hlt]
  · refine RetV.pure s1 ?_
    have : hasI l a = false := by simp [hasI]; omega
    simp [blockR, this]
  · refine RetV.pure s1 ?_
    have : hasI l a = false := by simp [hasI]; omega
    simp [blockR, this]
set_option maxRecDepth 100000 in
theorem clip_c {K σ : Store} {v : V} {rows : List V} (h : OutV K σ 3 1 v rows) (hl : rows.length ≤ 1000000000) : Contract Try.prog 62 [v] σ fun r σ' => r = v ∧ σ' = σ := by
  rcases h with ⟨rfl, rfl⟩ | ⟨id, rfl, ho, hk⟩
  · refine Contract.of_runs Try.func62 e62 k62 (by simp [c62]) ?_
    refine Runs.mix 3 ?_
    (refine Runs.of_step Orc.nothing 300 ?_; simp -implicitDefEqProofs only [BB,seval,effR_some,effD_some,← decide_not,okind,vpre,vpure,intBin,intPre,strBin,strPre,popTo,argSlots,fldV,fldAV,subCells,idxVV,idxAAV,idxSV,sliceV,sliceSV,boundV,szIs,storeOp,storeS,setRowV,eff,extV,buildV,splice,eqSV,fitsL,eqCells,eqCell,minmaxV,capV,binBV,nilCheckV,bytesV,V.cells,V.stays,Orc.nothing,c62])
    exact RetV.same rfl
  · refine Contract.of_runs Try.func62 e62 k62 (by simp [c62]) ?_
    refine Runs.mix 3 ?_
    have hc : (0 : Int) ≤ rows.length ∧ (rows.length : Int) ≤ rows.length := by omega
    (refine Runs.of_step Orc.nothing 300 ?_; simp -implicitDefEqProofs only [BB,seval,effR_some,effD_some,← decide_not,okind,vpre,vpure,intBin,intPre,strBin,strPre,popTo,argSlots,fldV,fldAV,subCells,idxVV,idxAAV,idxSV,sliceV,sliceSV,boundV,szIs,storeOp,storeS,setRowV,eff,extV,buildV,splice,eqSV,fitsL,eqCells,eqCell,minmaxV,capV,binBV,nilCheckV,bytesV,V.cells,V.stays,Orc.nothing,c62,ho,beq_self_eq_true,hc,Int.toNat_zero,Int.toNat_natCast,Nat.sub_zero])
    exact RetV.same rfl
theorem lastEnd_nil (l : List Nd) (into : Int) : lastEnd l into [] = into + 1 := rfl
theorem lastEnd_last {l : List Nd} {into : Int} {ks : List Int} (h : 0 < ks.length) : lastEnd l into ks = ks[ks.length - 1] + szI l (ks[ks.length - 1]).toNat := by
  have := lastEnd_take (l := l) (into := into) (ks := ks) (i := ks.length - 1) (by omega)
  rw [show ks.length - 1 + 1 = ks.length by omega, List.take_length] at this
  exact this
set_option maxRecDepth 100000 in
theorem places9_c (x : Ed) (l : List Nd) (hl : Fine l) (hb : isB l = true) (ha : x.into = -1 ∨ hasI l x.into = true) : PFun Try.prog 43 [encH x l] (encI (placesR l x.into)) := fun σ => by
  have hl1 := hl.1
  have hin : -1 ≤ x.into ∧ x.into ≤ 1000000000 := by
    rcases ha with h | h
    · omega
    · have := hasI_iff.1 h; omega
  refine Contract.of_runs Try.func43 e43 k43 (by simp [c43]) ?_
  refine Runs.mix 6 ?_
  (refine Runs.of_step Orc.nothing 300 ?_; simp -implicitDefEqProofs only [BB,seval,← decide_not,okind,vpre,vpure,intBin,intPre,strBin,strPre,popTo,argSlots,fldV,fldAV,subCells,idxVV,idxAAV,idxSV,sliceV,sliceSV,boundV,szIs,storeOp,storeS,setRowV,eff,extV,buildV,splice,eqSV,fitsL,eqCells,eqCell,minmaxV,capV,binBV,nilCheckV,bytesV,V.cells,V.stays,Orc.nothing,c43,encH,encNs_cells,encNs_stays])
  refine effR_new fun id1 σ1 s1 a1 f1 => ?_
  simp -implicitDefEqProofs only [BB,seval,← decide_not,okind,vpre,vpure,intBin,intPre,strBin,strPre,popTo,argSlots,fldV,fldAV,subCells,idxVV,idxAAV,idxSV,sliceV,sliceSV,boundV,szIs,storeOp,storeS,setRowV,eff,extV,buildV,splice,eqSV,fitsL,eqCells,eqCell,minmaxV,capV,binBV,nilCheckV,bytesV,V.cells,V.stays,a1,encNs_cells,encNs_stays]
  have hkl := kidsR_len l x.into
  have hkm := fun y (h : y ∈ kidsR l x.into) => kidsR_mem h
  refine Runs.call rfl rfl rfl (kids9_c l hl hb _ ha _) ?_
  rintro r σ2 ⟨hsub, hout⟩
  have hpe : placesR l x.into = kidsR l x.into ++ [lastEnd l x.into (kidsR l x.into)] := rfl
  rw [hpe]
  generalize kidsR l x.into = ks at *
  (refine Runs.of_step Orc.nothing 300 ?_; simp -implicitDefEqProofs only [BB,seval,← decide_not,okind,vpre,vpure,intBin,intPre,strBin,strPre,popTo,argSlots,fldV,fldAV,subCells,idxVV,idxAAV,idxSV,sliceV,sliceSV,boundV,szIs,storeOp,storeS,setRowV,eff,extV,buildV,splice,eqSV,fitsL,eqCells,eqCell,minmaxV,capV,binBV,nilCheckV,bytesV,V.cells,V.stays,Orc.nothing])
  have hkl2 : (ks.map vI).length ≤ 1000000000 := by rw [List.length_map]; omega
  refine Runs.pcall rfl rfl rfl (clip_c hout hkl2) ?_
  have a1' := hsub _ _ a1
  have n1 := hout.len
  rw [List.length_map] at n1
  have hout' := hout
  have hb2 : (ks.length + 1) * 9 ≤ 140737488355328 := by omega
  rcases hout with ⟨rfl, hr0⟩ | ⟨id, rfl, ho, hk⟩
  · have hk0 : ks = [] := by cases ks with | nil => rfl | cons a b => simp at hr0
    subst hk0
    (refine Runs.of_step Orc.nothing 300 ?_; simp -implicitDefEqProofs only [BB,seval,← decide_not,okind,vpre,vpure,intBin,intPre,strBin,strPre,popTo,argSlots,fldV,fldAV,subCells,idxVV,idxAAV,idxSV,sliceV,sliceSV,boundV,szIs,storeOp,storeS,setRowV,eff,extV,buildV,splice,eqSV,fitsL,eqCells,eqCell,minmaxV,capV,binBV,nilCheckV,bytesV,V.cells,V.stays,Orc.nothing,a1',encNs_cells,encNs_stays])
    refine ⟨inR_i64 (by omega) (by omega), ?_⟩
    refine effR_new fun id3 σ3 s3 a3 f3 => ?_
    obtain ⟨idA, hd, hdel⟩ := hout'.dst s3
    simp -implicitDefEqProofs only [BB,seval,← decide_not,okind,vpre,vpure,intBin,intPre,strBin,strPre,popTo,argSlots,fldV,fldAV,subCells,idxVV,idxAAV,idxSV,sliceV,sliceSV,boundV,szIs,storeOp,storeS,setRowV,eff,extV,buildV,splice,eqSV,fitsL,eqCells,eqCell,minmaxV,capV,binBV,nilCheckV,bytesV,V.cells,V.stays,hd,srcOne a3,List.length_map,hb2]
    refine effR_put fun id4 σ4 s4 a4 f4 => ?_
    simp -implicitDefEqProofs only [BB,seval,← decide_not,okind,vpre,vpure,intBin,intPre,strBin,strPre,popTo,argSlots,fldV,fldAV,subCells,idxVV,idxAAV,idxSV,sliceV,sliceSV,boundV,szIs,storeOp,storeS,setRowV,eff,extV,buildV,splice,eqSV,fitsL,eqCells,eqCell,minmaxV,capV,binBV,nilCheckV,bytesV,V.cells,V.stays]
    have hs3 := (s1.trans hsub).trans s3
    have hs4 := (hdel σ s1 σ3 hs3).trans s4
    exact (OutV.new (K := σ) (e := 3) (sz := 1) (n := 1) (rows := ([lastEnd l x.into []]).map vI) rfl (by rw [a4]; rfl) (hs3.none f4)).retv hs4 rfl
  · rw [List.length_map] at hout' ⊢
    (refine Runs.of_step Orc.nothing 300 ?_; simp -implicitDefEqProofs only [BB,seval,← decide_not,okind,vpre,vpure,intBin,intPre,strBin,strPre,popTo,argSlots,fldV,fldAV,subCells,idxVV,idxAAV,idxSV,sliceV,sliceSV,boundV,szIs,storeOp,storeS,setRowV,eff,extV,buildV,splice,eqSV,fitsL,eqCells,eqCell,minmaxV,capV,binBV,nilCheckV,bytesV,V.cells,V.stays,Orc.nothing,a1',encNs_cells,encNs_stays])
    refine ⟨inR_i64 (by omega) (by omega), And.intro (fun h => ?gA) (fun h => ?gB)⟩
    case' gA =>
      have hpos : 0 < ks.length := by omega
      have hlt : ks.length - 1 < ks.length := by omega
      obtain ⟨g1, g2⟩ := hkm _ (List.getElem_mem hlt)
      have hsz := szI_bound hb g2
      have hse := szI_eq g2
      have e1 : (ks.length : Int) - 1 = ((ks.length - 1 : Nat) : Int) := by omega
      have hle := lastEnd_last (l := l) (into := x.into) hpos
      have hrow : (ks.map vI)[ks.length - 1]? = some (vI ks[ks.length - 1]) := by simp [hlt]
      have hc : (0 : Int) ≤ ((ks.length - 1 : Nat) : Int) ∧ ((ks.length - 1 : Nat) : Int) < ks.length := by omega
      generalize hke : ks[ks.length - 1] = q at *
      simp -implicitDefEqProofs only [BB,seval,← decide_not,okind,vpre,vpure,intBin,intPre,strBin,strPre,popTo,argSlots,fldV,fldAV,subCells,idxVV,idxAAV,idxSV,sliceV,sliceSV,boundV,szIs,storeOp,storeS,setRowV,eff,extV,buildV,splice,eqSV,fitsL,eqCells,eqCell,minmaxV,capV,binBV,nilCheckV,bytesV,V.cells,V.stays,e1,ho,hc,hrow,Int.toNat_natCast,a1',idxAV_encNsI g1 g2,Nd.cells]
      rw [← hse]
      refine ⟨inR_i64 (by omega) (by omega), inR_i64 (by omega) (by omega), inR_i64 (by omega) (by omega), ?_⟩
      rw [← hle]
    case' gB =>
      have hk0 : ks = [] := List.eq_nil_of_length_eq_zero (by omega)
      have hle : x.into + 1 = lastEnd l x.into ks := by rw [hk0]; rfl
      rw [hle]
    case gA | gB =>
      generalize lastEnd l x.into ks = le at *
      refine effR_new fun id3 σ3 s3 a3 f3 => ?_
      obtain ⟨idA, hd, hdel⟩ := hout'.dst s3
      simp -implicitDefEqProofs only [BB,seval,← decide_not,okind,vpre,vpure,intBin,intPre,strBin,strPre,popTo,argSlots,fldV,fldAV,subCells,idxVV,idxAAV,idxSV,sliceV,sliceSV,boundV,szIs,storeOp,storeS,setRowV,eff,extV,buildV,splice,eqSV,fitsL,eqCells,eqCell,minmaxV,capV,binBV,nilCheckV,bytesV,V.cells,V.stays,hd,srcOne a3,List.length_map,hb2]
      refine effR_put fun id4 σ4 s4 a4 f4 => ?_
      simp -implicitDefEqProofs only [BB,seval,← decide_not,okind,vpre,vpure,intBin,intPre,strBin,strPre,popTo,argSlots,fldV,fldAV,subCells,idxVV,idxAAV,idxSV,sliceV,sliceSV,boundV,szIs,storeOp,storeS,setRowV,eff,extV,buildV,splice,eqSV,fitsL,eqCells,eqCell,minmaxV,capV,binBV,nilCheckV,bytesV,V.cells,V.stays]
      have hs3 := (s1.trans hsub).trans s3
      have hs4 := (hdel σ s1 σ3 hs3).trans s4
      exact (OutV.new (K := σ) (e := 3) (sz := 1) (n := ks.length + 1) (rows := (ks ++ [le]).map vI) (by simp) (by rw [a4]; simp) (hs3.none f4)).retv hs4 rfl
end Go.Vc
namespace Go.Vc
open Go.Proofs
def goesR (l : List Nd) (into pos many : Int) : Int × Int × Bool :=
  if into ≠ -1 ∧ blockR l into = false then (0, 0, false)
  else if idxI pos (placesR l into) 0 < 0 ∨ many < 0 ∨ many ≥ (placesR l into).length - idxI pos (placesR l into) 0 then (0, 0, false)
  else (pos, ((placesR l into)[(idxI pos (placesR l into) 0 + many).toNat]?).getD 0, true)
theorem idxI_range (a : Int) : ∀ (p : List Int) (i : Nat), idxI a p i = -1 ∨ (i : Int) ≤ idxI a p i ∧ idxI a p i < i + p.length
  | [], _ => .inl rfl
  | q :: r, i => by
    rw [idxI]
    split
    · right; simp; omega
    · rcases idxI_range a r (i + 1) with h | ⟨h1, h2⟩
      · exact .inl h
      · right; simp only [List.length_cons]; omega
theorem placesR_len (l : List Nd) (into : Int) : (placesR l into).length ≤ l.length + 1 := by
  have := kidsR_len l into
  simp only [placesR,List.length_append,List.length_cons,List.length_nil]; omega
set_option maxRecDepth 100000 in
theorem goes_c (x : Ed) (l : List Nd) (hl : Fine l) (hb : isB l = true) : PFun Try.prog 22 [encH x l] (.tup [vI (goesR l x.into x.pos x.many).1, vI (goesR l x.into x.pos x.many).2.1, .bool (goesR l x.into x.pos x.many).2.2]) := fun σ => by
  have hl1 := hl.1
  refine Contract.of_runs Try.func22 e22 k22 (by simp [c22]) ?_
  refine Runs.mix 7 ?_
  (refine Runs.of_step Orc.nothing 300 ?_; simp -implicitDefEqProofs only [BB,seval,← decide_not,okind,vpre,vpure,intBin,intPre,strBin,strPre,popTo,argSlots,fldV,fldAV,subCells,idxVV,idxAAV,idxSV,sliceV,sliceSV,boundV,szIs,storeOp,storeS,setRowV,eff,extV,buildV,splice,eqSV,fitsL,eqCells,eqCell,minmaxV,capV,binBV,nilCheckV,bytesV,V.cells,V.stays,Orc.nothing,c22,encH,encNs_cells,encNs_stays])
  refine effR_new fun id1 σ1 s1 a1 f1 => ?_
  simp -implicitDefEqProofs only [BB,seval,← decide_not,okind,vpre,vpure,intBin,intPre,strBin,strPre,popTo,argSlots,fldV,fldAV,subCells,idxVV,idxAAV,idxSV,sliceV,sliceSV,boundV,szIs,storeOp,storeS,setRowV,eff,extV,buildV,splice,eqSV,fitsL,eqCells,eqCell,minmaxV,capV,binBV,nilCheckV,bytesV,V.cells,V.stays,a1,encNs_cells,encNs_stays]
  refine And.intro (fun h => ?gA) (fun h => ?gB)
  case' gA =>
    refine Runs.pcall rfl rfl rfl (block9_c x l _ _) ?_
    cases hbk : blockR l x.into
  case' gA.false =>
    (refine Runs.of_step Orc.nothing 300 ?_; simp -implicitDefEqProofs only [BB,seval,← decide_not,okind,vpre,vpure,intBin,intPre,strBin,strPre,popTo,argSlots,fldV,fldAV,subCells,idxVV,idxAAV,idxSV,sliceV,sliceSV,boundV,szIs,storeOp,storeS,setRowV,eff,extV,buildV,splice,eqSV,fitsL,eqCells,eqCell,minmaxV,capV,binBV,nilCheckV,bytesV,V.cells,V.stays,Orc.nothing,hbk])
    refine RetV.pure s1 ?_
    rw [goesR, if_pos ⟨by simpa using h, hbk⟩]
  case' gA.true =>
    (refine Runs.of_step Orc.nothing 300 ?_; simp -implicitDefEqProofs only [BB,seval,← decide_not,okind,vpre,vpure,intBin,intPre,strBin,strPre,popTo,argSlots,fldV,fldAV,subCells,idxVV,idxAAV,idxSV,sliceV,sliceSV,boundV,szIs,storeOp,storeS,setRowV,eff,extV,buildV,splice,eqSV,fitsL,eqCells,eqCell,minmaxV,capV,binBV,nilCheckV,bytesV,V.cells,V.stays,Orc.nothing,hbk,a1,encNs_cells,encNs_stays])
    have hin : x.into = -1 ∨ hasI l x.into = true := by
      simp only [blockR,Bool.and_eq_true] at hbk
      exact .inr hbk.1
    have hnb : ¬ (x.into ≠ -1 ∧ blockR l x.into = false) := by simp [hbk]
  case' gB =>
    have hin : x.into = -1 ∨ hasI l x.into = true := .inl (by omega)
    have hnb : ¬ (x.into ≠ -1 ∧ blockR l x.into = false) := by omega
  case gA.true | gB =>
    have hG : goesR l x.into x.pos x.many = if idxI x.pos (placesR l x.into) 0 < 0 ∨ x.many < 0 ∨ x.many ≥ (placesR l x.into).length - idxI x.pos (placesR l x.into) 0 then (0, 0, false)
      else (x.pos, ((placesR l x.into)[(idxI x.pos (placesR l x.into) 0 + x.many).toNat]?).getD 0, true) := by
      rw [goesR, if_neg hnb]
    rw [hG]
    have hpl := placesR_len l x.into
    refine Runs.pcall rfl rfl rfl (places9_c x l hl hb hin _) ?_
    generalize placesR l x.into = p at *
    (refine Runs.of_step Orc.nothing 300 ?_; simp -implicitDefEqProofs only [BB,seval,← decide_not,okind,vpre,vpure,intBin,intPre,strBin,strPre,popTo,argSlots,fldV,fldAV,subCells,idxVV,idxAAV,idxSV,sliceV,sliceSV,boundV,szIs,storeOp,storeS,setRowV,eff,extV,buildV,splice,eqSV,fitsL,eqCells,eqCell,minmaxV,capV,binBV,nilCheckV,bytesV,V.cells,V.stays,Orc.nothing,a1,encNs_cells,encNs_stays])
    refine Runs.pcall rfl rfl rfl (index_c p (by omega) _ _) ?_
    have hr := idxI_range x.pos p 0
    generalize idxI x.pos p 0 = k at *
    (refine Runs.of_step Orc.nothing 300 ?_; simp -implicitDefEqProofs only [BB,seval,← decide_not,okind,vpre,vpure,intBin,intPre,strBin,strPre,popTo,argSlots,fldV,fldAV,subCells,idxVV,idxAAV,idxSV,sliceV,sliceSV,boundV,szIs,storeOp,storeS,setRowV,eff,extV,buildV,splice,eqSV,fitsL,eqCells,eqCell,minmaxV,capV,binBV,nilCheckV,bytesV,V.cells,V.stays,Orc.nothing,a1,encNs_cells,encNs_stays,lenV_encI])
    refine And.intro (fun h1 => And.intro (fun h2 => ⟨inR_i64 (by omega) (by omega), And.intro (fun h3 => ?r3) (fun h3 => ⟨inR_i64 (by omega) (by omega), ?r4⟩)⟩) (fun h2 => ?r2)) (fun h1 => ?r1)
    case r1 =>
      refine RetV.pure s1 ?_
      rw [if_pos (.inl h1)]
    case r2 =>
      refine RetV.pure s1 ?_
      rw [if_pos (.inr (.inl h2))]
    case r3 =>
      refine RetV.pure s1 ?_
      rw [if_pos (.inr (.inr h3))]
    case r4 =>
      have hlt : (k + x.many).toNat < p.length := by omega
      have e2 : k + x.many = (((k + x.many).toNat : Nat) : Int) := by omega
      rw [if_neg (by omega)]
      have hx := fun σ => idxAV_encI (σ := σ) hlt
      rw [← e2] at hx
      simp -implicitDefEqProofs only [BB,seval,← decide_not,okind,vpre,vpure,intBin,intPre,strBin,strPre,popTo,argSlots,fldV,fldAV,subCells,idxVV,idxAAV,idxSV,sliceV,sliceSV,boundV,szIs,storeOp,storeS,setRowV,eff,extV,buildV,splice,eqSV,fitsL,eqCells,eqCell,minmaxV,capV,binBV,nilCheckV,bytesV,V.cells,V.stays,hx]
      refine RetV.pure s1 ?_
      simp [hlt]
end Go.Vc
