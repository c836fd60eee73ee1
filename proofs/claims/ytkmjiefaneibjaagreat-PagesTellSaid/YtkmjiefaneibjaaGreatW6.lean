/- Part 6 of the library of this proof. -/
import Derived.Test.YtkmjiefaneibjaaGreatW5
import Derived.WalkKit
import Derived.ProofKit
import Derived.Deep.Slices
import Derived.ChangeArms
import Derived.WideKeyArgs
import Derived.Carry
import Derived.SizedLaws
set_option linter.all false
namespace Go.Vc
open Go.ChangeShapes Go.WideShapes Go.RowKit Go.Deep
def contig (P : Program) (total : Nat) : Nat → List Field → Bool
  | off, [] => off == total
  | off, f :: fs => f.offset == off && contig P total (off + P.cellsOf f.type) fs
def okTy (P : Program) : Nat → TypeId → Bool
  | 0, _ => false
  | n + 1, t => match P.underlying t with
    | some .bool | some (.int _) | some .string => true
    | some (.slice e) => okTy P n e && P.cellsOf e != 0
    | some (.struct fs) => contig P (P.cellsOf t) 0 fs.toList && fs.toList.all fun f => okTy P n f.type
    | _ => false
def rowOf (agg : Bool) (cs : List V) : V := if agg then .agg cs else cs.getD 0 .undef
def ShpFs (S : TypeId → List V → Prop) : List Field → List V → Prop
  | [], vs => vs = []
  | f :: fs, vs => ∃ a b, vs = a ++ b ∧ S f.type a ∧ ShpFs S fs b
def ShpC (P : Program) : Nat → TypeId → List V → Prop
  | 0, _, _ => False
  | n + 1, t, vs => match P.underlying t with
    | some .bool => ∃ b, vs = [.bool b]
    | some (.int k) => ∃ m, vs = [.int k m] ∧ (Lit.int k m).wf = true
    | some .string => ∃ s : List UInt8, vs = [.str s] ∧ s.length ≤ reachBytes
    | some (.slice e) => ∃ rows, vs = [.sl (P.cellsOf e) rows] ∧ rows.length * P.bytesOf e ≤ reachBytes ∧ ∀ r ∈ rows, ∃ cs, ShpC P n e cs ∧ r = rowOf (aggT P e) cs
    | some (.struct fs) => ShpFs (ShpC P n) fs.toList vs
    | _ => False
theorem list_of {α : Type} {Pr : Nat → α → Prop} : ∀ n, (∀ i, i < n → ∃ r, Pr i r) → ∃ rows : List α, rows.length = n ∧ ∀ i r, rows[i]? = some r → Pr i r
  | 0, _ => ⟨[], rfl, fun i r h => by simp at h⟩
  | n + 1, h => by
    obtain ⟨rows, h1, h2⟩ := list_of n fun i hi => h i (by omega)
    obtain ⟨r, hr⟩ := h n (by omega)
    refine ⟨rows ++ [r], by simp [h1], fun i x hx => ?_⟩
    rw [List.getElem?_append] at hx
    split at hx
    · exact h2 i x hx
    · rename_i hi
      have : i - rows.length = 0 := by
        rcases Nat.eq_zero_or_pos (i - rows.length) with h0 | h0
        · exact h0
        · rw [List.getElem?_eq_none (by simp; omega)] at hx; cases hx
      rw [this] at hx
      simp at hx
      subst hx
      have : i = n := by omega
      subst this
      exact hr
theorem repRows_of {μ : Mu} {ow : Nat → Prop} {w : World} {b off sz : Nat} : ∀ (rows : List V) (k : Nat), (∀ i r, rows[i]? = some r → r.cells.length = sz ∧ RepCells μ ow w r.cells b (off + (k + i) * sz)) → RepRows μ ow w rows b (off + k * sz) sz
  | [], _, _ => by simp [RepRows]
  | r :: rs, k, h => by
    have h0 := h 0 r rfl
    simp only [RepRows]
    refine ⟨h0.1, by rw [RepRow_eq]; simpa using h0.2, ?_⟩
    have e : off + k * sz + sz = off + (k + 1) * sz := by rw [Nat.add_mul]; omega
    rw [e]
    refine repRows_of rs (k + 1) fun i x hx => ?_
    have := h (i + 1) x (by simpa using hx)
    rw [show k + 1 + i = k + (i + 1) by omega]
    exact this
section
variable {H : Type} {enc : TypeId × Value → H} {P : Program} {w : World} {base : Nat} {spare : Nat → Bool} {held : Bool} {μ : Mu} {ow : Nat → Prop}
def RepShp (P : Program) (μ : Mu) (ow : Nat → Prop) (w : World) (N : Nat) (t : TypeId) (cs : List Value) : Prop :=
  ∃ vs, ShpC P N t vs ∧ RepAll μ ow w vs cs ∧ ∀ u ∈ cs, u.oneCell' = true
theorem struct_rep {S : TypeId → List V → Prop} {cs : List Value} : ∀ (fs : List Field) (off : Nat), contig P cs.length off fs = true →
    (∀ f ∈ fs, ∃ vs, S f.type vs ∧ RepAll μ ow w vs ((cs.drop f.offset).take (P.cellsOf f.type)) ∧ ∀ u ∈ (cs.drop f.offset).take (P.cellsOf f.type), u.oneCell' = true) →
    ∃ vs, ShpFs S fs vs ∧ RepAll μ ow w vs (cs.drop off) ∧ ∀ u ∈ cs.drop off, u.oneCell' = true
  | [], off, hc, _ => by
    simp only [contig, beq_iff_eq] at hc
    refine ⟨[], rfl, ?_, ?_⟩
    · rw [List.drop_eq_nil_of_le (by omega)]; simp [RepAll]
    · rw [List.drop_eq_nil_of_le (by omega)]; simp
  | f :: fs, off, hc, h => by
    simp only [contig, Bool.and_eq_true, beq_iff_eq] at hc
    obtain ⟨a, h1, h2, h3⟩ := h f (by simp)
    obtain ⟨b, h4, h5, h6⟩ := struct_rep fs (off + P.cellsOf f.type) hc.2 fun g hg => h g (by simp [hg])
    rw [hc.1] at h2 h3
    have e : cs.drop off = (cs.drop off).take (P.cellsOf f.type) ++ cs.drop (off + P.cellsOf f.type) := by
      rw [← List.drop_drop, List.take_append_drop]
    refine ⟨a ++ b, ⟨a, b, rfl, h1, h4⟩, ?_, ?_⟩
    · rw [e]; exact h2.append h5
    · rw [e]; intro u hu
      rcases List.mem_append.1 hu with hu | hu
      · exact h3 u hu
      · exact h6 u hu
theorem one_rep {v : V} {x : Value} (h : Rep μ ow w v x) : RepAll μ ow w [v] [x] := by simp only [RepAll]; exact ⟨x, [], rfl, h, rfl⟩
theorem aggT_struct {t : TypeId} {fs : Array Field} (h : P.underlying t = some (.struct fs)) : aggT P t = true := by simp [aggT, h]
theorem weightsAll_mem {e : TypeId} {d : DataW H} : ∀ {l : List (DataW H)}, d ∈ l → ∀ n ∈ d.weights P e, n ∈ DataW.weightsAll P e l
  | [], h, _, _ => by simp at h
  | x :: l, h, n, hn => by
    simp only [DataW.weightsAll, List.mem_append]
    rcases List.mem_cons.1 h with rfl | h
    · exact .inl hn
    · exact .inr (weightsAll_mem h n hn)
theorem rep_of_trod (hno : ∀ b, ¬ ow b) : ∀ (N : Nat) (fuel : Nat) (t : TypeId) (cs : List Value) (x : DataW H × List MemPlace), okTy P N t = true → (∀ n ∈ x.1.weights P t, n ≤ reachBytes) → DataW.trod enc P w base spare held fuel t cs = some x →
    RepShp P μ ow w N t cs
  | 0, _, _, _, _, h, _, _ => by simp [okTy] at h
  | N + 1, fuel, t, cs, x, hok, hwt, hx => by
    have hok' := hok
    unfold okTy at hok
    unfold RepShp
    simp only [ShpC]
    split at hok
    · rename_i ht
      obtain ⟨b, rfl, _⟩ := DataW.trod_bool ht hx
      exact ⟨[.bool b], ⟨b, rfl⟩, one_rep (by simp [Rep]), by simp [Value.oneCell']⟩
    · rename_i k ht
      obtain ⟨m, rfl, _, hw⟩ := DataW.trod_int ht hx
      exact ⟨[.int k m], ⟨m, rfl, hw⟩, one_rep (by simp [Rep]), by simp [Value.oneCell']⟩
    · rename_i ht
      obtain ⟨s, rfl, rfl, hw⟩ := DataW.trod_string ht hx
      exact ⟨[.str s.data.toList], ⟨_, rfl, hwt _ (by simp [DataW.weights])⟩, one_rep (by simp [Rep]), by simp [Value.oneCell']⟩
    · rename_i e ht
      simp only [Bool.and_eq_true, bne_iff_ne, ne_eq] at hok
      rcases open_slice ht hx with ⟨rfl, _⟩ | ⟨a, len, cap, m, n, D, Pl, rfl, hb, hl, hm, hmm, rfl, hi⟩
      · exact ⟨[.sl (P.cellsOf e) []], ⟨[], rfl, by simp, by simp⟩, one_rep (by simp only [Rep]; exact ⟨none, 0, rfl, by simp, .inl trivial⟩), by simp [Value.oneCell']⟩
      · have hlm : len ≤ m := by rw [hmm]; split <;> omega
        simp only [DataW.weights, ht] at hwt
        have hlen : len * P.bytesOf e ≤ reachBytes := by
          have := hwt _ (List.mem_cons_self ..)
          simp only [List.length_map, List.length_range] at this
          exact Nat.le_trans (Nat.mul_le_mul_right _ (by omega)) this
        have hel : ∀ i, i < len → ∃ r : V, (∃ cs, ShpC P N e cs ∧ r = rowOf (aggT P e) cs) ∧ r.cells.length = P.cellsOf e ∧ ∃ cs', RepAll μ ow w r.cells cs' ∧ (∀ u ∈ cs', u.oneCell' = true) ∧ cs'.length = P.cellsOf e ∧
            ∀ j, j < P.cellsOf e → w.cell? ((a.add (i * P.cellsOf e)).add j) = cs'[j]? := by
          intro i hi'
          obtain ⟨cs', h1, h2⟩ := hi i (by omega)
          obtain ⟨_, hcl, hat⟩ := World.cells?_some h1
          obtain ⟨vs, h3, h4, h5⟩ := rep_of_trod hno N n e cs' _ hok.1 (fun q hq => hwt q (List.mem_cons_of_mem _ (List.mem_append_left _ (weightsAll_mem (List.mem_map.2 ⟨i, by simpa using hi', rfl⟩) q hq)))) h2
          have hvl : vs.length = P.cellsOf e := by rw [← hcl, h4.length]
          have hcells : (rowOf (aggT P e) vs).cells = vs := by
            unfold rowOf
            split
            · rfl
            · rename_i hna
              cases N with
              | zero => simp [ShpC] at h3
              | succ N' =>
                unfold ShpC at h3
                split at h3
                · obtain ⟨b, rfl⟩ := h3; rfl
                · obtain ⟨b, rfl, _⟩ := h3; rfl
                · obtain ⟨b, rfl, _⟩ := h3; rfl
                · obtain ⟨b, rfl, _⟩ := h3; rfl
                · rename_i hs; exact absurd (aggT_struct hs) hna
                · exact h3.elim
          exact ⟨rowOf (aggT P e) vs, ⟨vs, h3, rfl⟩, by rw [hcells, hvl], cs', by rw [hcells]; exact h4, h5, hcl, hat⟩
        obtain ⟨rows, hr1, hr2⟩ := list_of len hel
        refine ⟨[.sl (P.cellsOf e) rows], ⟨rows, rfl, by rw [hr1]; exact hlen, fun r hr => ?_⟩, one_rep ?_, by simp [Value.oneCell']⟩
        · obtain ⟨i, hi'⟩ := List.getElem?_of_mem hr
          exact (hr2 i r hi').1
        · simp only [Rep]
          refine ⟨some a, cap, by rw [hr1], by omega, ?_⟩
          by_cases h0 : len = 0
          · left; exact List.eq_nil_of_length_eq_zero (by omega)
          · right
            have hfirst : ∃ r, rows[0]? = some r := ⟨rows[0]'(by omega), by simp⟩
            obtain ⟨r0, hr0⟩ := hfirst
            obtain ⟨_, _, cs0, _, _, hcl0, hat0⟩ := hr2 0 r0 hr0
            have hc0 := hat0 0 (by omega)
            rw [List.getElem?_eq_getElem (by omega)] at hc0
            have hspot : a.spot = none := by
              have := World.cell?_spot hc0
              simpa [Addr.add] using this
            obtain ⟨b, off, spot⟩ := a
            subst hspot
            refine ⟨b, off, rfl, hno b, by omega, ?_⟩
            have := repRows_of (μ := μ) (ow := ow) (w := w) (b := b) (off := off) (sz := P.cellsOf e) rows 0 fun i r hri => ?_
            · simpa using this
            · obtain ⟨_, h1, cs', h2, h3, h4, h5⟩ := hr2 i r hri
              refine ⟨h1, RepCells_of h2 h3 fun j u hu => ?_⟩
              have hj : j < P.cellsOf e := by rw [← h4]; exact (List.getElem?_eq_some_iff.1 hu).1
              have := h5 j hj
              rw [hu, add_plain, add_plain] at this
              rw [Nat.zero_add]
              exact this
    · rename_i fs ht
      simp only [Bool.and_eq_true] at hok
      obtain ⟨xs, n, _, rfl, hl, hxl, hf⟩ := DataW.trod_struct ht hx
      simp only [DataW.weights, ht] at hwt
      obtain ⟨vs, h1, h2, h3⟩ := struct_rep (μ := μ) (ow := ow) (w := w) (P := P) (S := ShpC P N) (cs := cs) fs.toList 0 (by rw [hl]; exact hok.1) fun f hfm => by
        obtain ⟨i, hi⟩ := List.getElem?_of_mem hfm
        have hi' : fs[i]? = some f := by simpa using hi
        have hlt : i < xs.length := by rw [hxl]; exact (Array.getElem?_eq_some_iff.1 hi').1
        have h1 := hf i f hi'
        rw [List.getElem?_eq_getElem hlt] at h1
        exact rep_of_trod hno N n f.type _ _ (List.all_eq_true.1 hok.2 f hfm) (fun q hq => hwt q (DataW.weights_mem_each (j := i) (t := f.type) (d := (xs[i]'hlt).1) (by simp [hi]) (by simp [hlt]) q hq)) h1
      exact ⟨vs, h1, by simpa using h2, by simpa using h3⟩
    · cases hok
def argOf (P : Program) (t : TypeId) (vs : List V) : V := if aggT P t then .agg vs else vs.getD 0 .undef
theorem arg_rep (hno : ∀ b, ¬ ow b) {N : Nat} {t : TypeId} {v : Value} {d : DataW H} {p : List MemPlace} {r : Reach} {b0 : Nat} (hok : okTy P N t = true) (hwt : ∀ n ∈ d.weights P t, n ≤ reachBytes) (hval : Value.okWide P w r b0 t v) (h : DataW.Trod enc P w base spare held t v d p) :
    ∃ vs, ShpC P N t vs ∧ Rep μ ow w (argOf P t vs) v := by
  obtain ⟨fuel, hf⟩ := h
  obtain ⟨vs, h1, h2, h3⟩ := rep_of_trod (μ := μ) hno N fuel t _ _ hok hwt hf
  refine ⟨vs, h1, ?_⟩
  cases N with
  | zero => simp [ShpC] at h1
  | succ N' =>
    unfold ShpC at h1
    have hone : ∀ u : V, vs = [u] → v.cells = #[v] → aggT P t = false → Rep μ ow w (argOf P t vs) v := by
      rintro u rfl hc ha
      rw [hc] at h2
      simp only [RepAll] at h2
      obtain ⟨x, xs, h4, h5, h6⟩ := h2
      simp only [List.cons.injEq] at h4
      simp only [argOf, ha, Bool.false_eq_true, if_false]
      rw [h4.1]; exact h5
    split at h1
    · rename_i ht
      obtain ⟨b, rfl⟩ := h1
      obtain ⟨x, rfl⟩ := okWide_bool ht hval
      exact hone _ rfl rfl (by simp [aggT, ht])
    · rename_i ht
      obtain ⟨b, rfl, _⟩ := h1
      obtain ⟨x, rfl⟩ := okWide_int ht hval
      exact hone _ rfl rfl (by simp [aggT, ht])
    · rename_i ht
      obtain ⟨b, rfl, _⟩ := h1
      obtain ⟨x, rfl⟩ := okWide_string ht hval
      exact hone _ rfl rfl (by simp [aggT, ht])
    · rename_i ht
      obtain ⟨b, rfl, _⟩ := h1
      obtain ⟨x, y, z, rfl⟩ := okWide_slice ht hval
      exact hone _ rfl rfl (by simp [aggT, ht])
    · rename_i ht
      obtain ⟨cs, rfl, _⟩ := okWide_struct ht hval
      simp only [argOf, aggT_struct ht, if_true, Rep]
      exact ⟨cs.toList, by simp, by simpa [Value.cells] using h2, by simpa [Value.cells] using h3⟩
    · exact h1.elim
def ShpArgs (P : Program) (N : Nat) : List TypeId → List V → Prop
  | [], us => us = []
  | t :: ts, us => ∃ vs us', us = argOf P t vs :: us' ∧ ShpC P N t vs ∧ ShpArgs P N ts us'
theorem args_rep (hno : ∀ b, ¬ ow b) {N : Nat} {r : Reach} {b0 : Nat} : ∀ {ts : List TypeId} {vs : List Value} {ds : List (DataW H)} {p : List MemPlace}, (∀ t ∈ ts, okTy P N t = true) → (∀ n ∈ DataW.weightsEach P ts ds, n ≤ reachBytes) →
    (∀ (j : Nat) t v, ts[j]? = some t → vs[j]? = some v → Value.okWide P w r b0 t v) → DataW.TrodAll enc P w base spare held ts vs ds p → ∃ us, ShpArgs P N ts us ∧ RepAll μ ow w us vs
  | [], vs, ds, p, _, _, _, h => by
    cases vs <;> cases ds <;> simp [DataW.TrodAll] at h
    exact ⟨[], rfl, by simp [RepAll]⟩
  | t :: ts, vs, ds, p, hok, hwt, hval, h => by
    obtain ⟨v, vs', d, ds', p', q, rfl, rfl, rfl, h1, h2⟩ := trodAll_cons h
    simp only [DataW.weightsEach, List.mem_append] at hwt
    obtain ⟨cs, g1, g2⟩ := arg_rep (μ := μ) (b0 := b0) hno (hok t (by simp)) (fun q hq => hwt q (.inl hq)) (hval 0 t v rfl rfl) h1
    obtain ⟨us, g3, g4⟩ := args_rep (b0 := b0) hno (fun u hu => hok u (by simp [hu])) (fun q hq => hwt q (.inr hq)) (fun j u x hj hx => hval (j + 1) u x (by simpa using hj) (by simpa using hx)) h2
    exact ⟨_ :: us, ⟨cs, us, rfl, g1, g3⟩, by simp only [RepAll]; exact ⟨v, vs', rfl, g2, g4⟩⟩
theorem trodAll_stays (hl : laidOutB P = true) : ∀ {ts : List TypeId} {vs : List Value} {ds : List (DataW H)} {p : List MemPlace} {W W' : World} {sp : Nat → Bool}, (∀ t ∈ ts, P.readableRec t = true ∧ t < P.types.size) →
    DataW.TrodAll enc P W 0 (fun _ => true) true ts vs ds p → Below W.heap.size W W' → (∀ x ∈ p, x.block < W.heap.size) → (∀ x ∈ p, sp x.block = true) → DataW.TrodAll enc P W' 0 sp true ts vs ds p
  | [], vs, ds, p, W, W', sp, _, h, _, _, _ => by
    cases vs <;> cases ds <;> simp [DataW.TrodAll] at h ⊢
    exact h
  | t :: ts, vs, ds, p, W, W', sp, ht, h, hb, hlt, hsp => by
    obtain ⟨v, vs', d, ds', p', q, rfl, rfl, rfl, h1, h2⟩ := trodAll_cons h
    refine ⟨p', q, WideElems.Trod_stays hl (ht t (by simp)).1 (ht t (by simp)).2 h1 (fun x hx => hb.same (hlt x (by simp [hx]))) (fun x hx => hsp x (by simp [hx])), ?_, rfl⟩
    exact trodAll_stays hl (fun u hu => ht u (by simp [hu])) h2 hb (fun x hx => hlt x (by simp [hx])) (fun x hx => hsp x (by simp [hx]))
end
theorem post_of_below {H : Type} {enc : TypeId × Value → H} {P : Program} {f : Func} {s : ChangeSpec} {apart fresh handsOn again : Bool} {W W' : World} {args : Array Value} {v : Value} {ds gs : List (DataW H)} {before pa pv : List MemPlace}
    (hW : DataW.Whole enc P f.params.toList s.vars apart W args.toList ds gs before)
    (hres : ∀ (b : Nat) (sp : Nat → Bool) (hd : Bool), DataW.TrodAll enc P W' b sp hd f.resultTypes.toList (v.resultList f.resultTypes.size) (s.fn H (ds ++ gs)).results [])
    (hargs : ∀ sp : Nat → Bool, (∀ p ∈ before, sp p.block = true) → DataW.TrodAll enc P W' 0 sp true f.params.toList args.toList (s.fn H (ds ++ gs)).args pa)
    (hvars : ∀ sp : Nat → Bool, (∀ p ∈ before, sp p.block = true) → DataW.TrodVars enc P W' sp s.vars (s.fn H (ds ++ gs)).vars pv)
    (hps : before = pa ++ pv) (hb : Below W.heap.size W W')
    (hok : ∀ (j : Nat) (t : TypeId) (r : Value), f.resultTypes[j]? = some t → (v.resultList f.resultTypes.size)[j]? = some r → Value.okWide P W' .any 0 t r) :
    s.post enc P f apart fresh handsOn again W args v W' := by
  have hlt : ∀ p ∈ before, p.block < W.heap.size := fun p hp => hW.lt p hp
  have hold : ∀ p ∈ before, (fun b => decide (b < W.heap.size)) p.block = true := fun p hp => by simpa using hlt p hp
  refine ⟨ds, gs, before, [], pa, pv, hW, hres _ _ _, hargs _ hold, hvars _ hold, World.keptBut_mono (fun p hp => ⟨hp, ?_⟩) (hb.frame (· ∈ before)), fun _ => ?_⟩
  · rw [hps, List.mem_append] at hp
    exact Or.inr hp
  · obtain ⟨_, _, _, _, _, hz, hn⟩ := hW
    refine ⟨hok, _, _, ([] ++ pa) ++ pv, ⟨[] ++ pa, pv, trodAll_append (hargs _ (fun _ _ => rfl)) (hres _ _ _), hvars _ (fun _ _ => rfl), rfl, ?_, ?_⟩, ?_⟩
    · intro b off hp
      have hin : MemPlace.cell b off ∈ before := by rw [hps]; simpa using hp
      rw [hb.frozen (hlt _ hin)]
      exact hz b off hin
    · intro ha
      have := hn ha
      rw [hps] at this
      simpa using this
    · intro p hp _
      rw [hps]
      simpa using hp
theorem law_post {H : Type} {enc : TypeId × Value → H} {P : Program} {f : Func} {i : FuncId} {s : ChangeSpec} {N : Nat} (hfs : P.funcs[i]? = some f) (hl : laidOutB P = true)
    (hts : f.params.toList.all (fun t => okTy P N t && (P.readableRec t && decide (t < P.types.size))) = true) (hvars : s.vars = []) {tb : TypeId} (hres : f.resultTypes = #[tb]) (htb : P.underlying tb = some .bool)
    (hfn : ∀ ds, ds.length = f.params.size → s.fn H ds = ⟨[.lit (.bool true)], ds, []⟩)
    (hlaw : ∀ us, ShpArgs P N f.params.toList us → PFun P i us (.bool true))
    {apart fresh handsOn again : Bool} {W : World} {base : Nat} {args : Array Value} {ds gs : List (DataW H)} {before : List MemPlace}
    (hval : ∀ (j : Nat) t v, f.params[j]? = some t → args[j]? = some v → Value.okWide P W .any base t v)
    (hW : DataW.Whole enc P f.params.toList s.vars apart W args.toList ds gs before) (hvt : s.plain.varTypes P = [])
    (hsz : (DataW.weightsEach P (f.params.toList ++ s.plain.varTypes P) (ds ++ gs)).all (· ≤ reachBytes) = true) (hO : Orig W) :
    Calls P i args W fun e W' => ∃ v, e = .returned v ∧ s.post enc P f apart fresh handsOn again W args v W' := by
  have hW' := hW
  obtain ⟨p, q, hA, hV, rfl, hfz, hnd⟩ := hW
  have hts' := List.all_eq_true.1 hts
  simp only [Bool.and_eq_true, decide_eq_true_eq] at hts'
  rw [hvars] at hV
  have hnoV : gs = [] ∧ q = [] := by
    cases gs with
    | nil => exact ⟨rfl, by simpa [DataW.TrodVars] using hV⟩
    | cons g gs => simp [DataW.TrodVars] at hV
  obtain ⟨rfl, rfl⟩ := hnoV
  have hno : ∀ b, ¬ Owned (fun _ => Pl.unborn) nost b := fun b ⟨_, _, _, _, h, _⟩ => by simp [nost] at h
  obtain ⟨us, hsh, hrep⟩ := args_rep (μ := fun _ => Pl.unborn) (ow := Owned (fun _ => Pl.unborn) nost) (b0 := base) (r := .any) hno (fun t ht => (hts' t ht).1)
    (by rw [hvt, List.append_nil, List.append_nil] at hsz; intro n hn; simpa using List.all_eq_true.1 hsz n hn) (fun j t v hj hv => hval j t v (by simpa using hj) (by simpa using hv)) hA
  have hsat : Sat W (Owned (fun _ => Pl.unborn) nost) (fun _ => Pl.unborn) nost W :=
    ⟨Nat.le_refl _, rfl, rfl, rfl, fun _ _ _ => rfl, ⟨0, fun _ _ => rfl⟩, fun _ _ _ _ _ _ _ _ _ h => by simp [nost] at h, fun _ _ h => by simp [nost] at h, fun b hb => (hno b hb).elim, ⟨W, hO, Nat.le_refl _, fun i _ => ⟨hno i, rfl⟩⟩⟩
  have hcall := (hlaw us hsh nost).2 (fun _ => Pl.unborn) W args.toList hsat hrep
  rw [Array.toArray_toList] at hcall
  refine hcall.mono ?_
  rintro e W' ⟨r, σ', μ', val, rfl, ⟨rfl, rfl⟩, _, hs', hr⟩
  simp only [Rep] at hr
  subst hr
  have hbel : Below W.heap.size W W' := ⟨hs'.os, hs'.tape, hs'.output, hs'.size, fun k hk => hs'.same k hk (hno k)⟩
  have hlen : ds.length = f.params.size := by
    have key : ∀ {ts : List TypeId} {vs : List Value} {ds : List (DataW H)} {p : List MemPlace}, DataW.TrodAll enc P W 0 (fun _ => true) true ts vs ds p → ds.length = ts.length := by
      intro ts
      induction ts with
      | nil => intro vs ds p h; cases vs <;> cases ds <;> simp [DataW.TrodAll] at h ⊢
      | cons t ts ih =>
        intro vs ds p h
        obtain ⟨_, _, _, _, _, _, _, rfl, _, _, h2⟩ := trodAll_cons h
        simp [ih h2]
    simpa using key hA
  have hfn' := hfn ds hlen
  refine ⟨.bool true, rfl, post_of_below (pa := p) (pv := []) hW' ?_ ?_ ?_ rfl hbel ?_⟩
  · intro b sp hd
    rw [List.append_nil, hfn', hres]
    exact ⟨[], [], shut_bool htb _, rfl, rfl⟩
  · intro sp hsp
    rw [List.append_nil, hfn']
    refine trodAll_stays hl (fun t ht => (hts' t ht).2) hA hbel (fun x hx => by simpa using hW'.lt x (by simpa using hx)) (fun x hx => hsp x (by simpa using hx))
  · intro sp _
    rw [List.append_nil, hfn', hvars]
    rfl
  · exact ok_one hres rfl (okWide_bool_mk htb _)
end Go.Vc
namespace Go.Vc
open Go.Proofs
section
variable {P : Program} {n : Nat} {t : TypeId} {vs : List V}
set_option maxRecDepth 100000 in
theorem shpX_int {k : IntKind} (ht : P.underlying t = some (.int k)) (h : ShpC P (n + 1) t vs) : ∃ m, vs = [.int k m] ∧ (Lit.int k m).wf = true := by
  simpa only [ShpC,ht] using h
set_option maxRecDepth 100000 in
theorem shpX_slice {e : TypeId} (ht : P.underlying t = some (.slice e)) (h : ShpC P (n + 1) t vs) : ∃ rows, vs = [.sl (P.cellsOf e) rows] ∧ rows.length * P.bytesOf e ≤ reachBytes ∧ ∀ r ∈ rows, ∃ cs, ShpC P n e cs ∧ r = rowOf (aggT P e) cs := by
  simpa only [ShpC,ht] using h
set_option maxRecDepth 100000 in
theorem shpX_struct {fs : Array Field} (ht : P.underlying t = some (.struct fs)) (h : ShpC P (n + 1) t vs) : ShpFs (ShpC P n) fs.toList vs := by
  simpa only [ShpC,ht] using h
end
end Go.Vc
namespace Go.Vc
open Go.Proofs
theorem mapsX_of {α : Type} {f : α → V} {p : α → Prop} : ∀ {rows : List V}, (∀ r ∈ rows, ∃ x, r = f x ∧ p x) → ∃ l : List α, rows = l.map f ∧ ∀ x ∈ l, p x
  | [], _ => ⟨[], rfl, by simp⟩
  | r :: rs, h => by
    obtain ⟨x, rfl, hx⟩ := h r (by simp)
    obtain ⟨l, rfl, hl⟩ := mapsX_of fun q hq => h q (List.mem_cons_of_mem _ hq)
    exact ⟨x :: l, rfl, by simpa using ⟨hx, hl⟩⟩
set_option maxRecDepth 100000
theorem cells_frag : Tryz.prog.cellsOf 89 = 7 := by kernel_rfl
theorem agg_frag : aggT Tryz.prog 89 = true := by kernel_rfl
theorem bytes_frag : Tryz.prog.bytesOf 89 = 56 := by kernel_rfl
theorem cells_page : Tryz.prog.cellsOf 39 = 5 := by kernel_rfl
theorem agg_page : aggT Tryz.prog 39 = true := by kernel_rfl
theorem bytes_page : Tryz.prog.bytesOf 39 = 88 := by kernel_rfl
theorem agg_pages : aggT Tryz.prog 49 = false := by kernel_rfl
theorem shp_frag {n : Nat} {vs : List V} (h : ShpC Tryz.prog (n + 2) 89 vs) : ∃ x : Fg, vs = (encF x).cells := by
  replace h := shpX_struct Tryz.underlying89 h
  simp only [ShpFs] at h
  obtain ⟨_, _, rfl, h1, _, _, rfl, h2, _, _, rfl, h3, _, _, rfl, h4, _, _, rfl, h5, _, _, rfl, h6, _, _, rfl, h7, rfl⟩ := h
  obtain ⟨m1, rfl, _⟩ := shpX_int Tryz.underlying3 h1
  obtain ⟨m2, rfl, _⟩ := shpX_int Tryz.underlying3 h2
  obtain ⟨m3, rfl, _⟩ := shpX_int Tryz.underlying3 h3
  obtain ⟨m4, rfl, _⟩ := shpX_int Tryz.underlying3 h4
  obtain ⟨m5, rfl, _⟩ := shpX_int Tryz.underlying3 h5
  obtain ⟨m6, rfl, _⟩ := shpX_int Tryz.underlying3 h6
  obtain ⟨m7, rfl, _⟩ := shpX_int Tryz.underlying3 h7
  exact ⟨⟨m1, m2, m3, m4, m5, m6, m7⟩, rfl⟩
theorem shp_frags {n : Nat} {vs : List V} (h : ShpC Tryz.prog (n + 3) 37 vs) : ∃ l, vs = [encFs l] ∧ l.length ≤ 1000000000000000 := by
  obtain ⟨rows, rfl, hl, h⟩ := shpX_slice Tryz.underlying37 h
  obtain ⟨l, rfl, -⟩ := mapsX_of (f := encF) (p := fun _ => True) fun r hr => by
    obtain ⟨cs, hc, rfl⟩ := h r hr
    obtain ⟨x, rfl⟩ := shp_frag hc
    exact ⟨x, by rw [agg_frag]; rfl, trivial⟩
  rw [bytes_frag] at hl
  simp only [List.length_map,reachBytes] at hl
  exact ⟨l, by rw [cells_frag]; rfl, by omega⟩
theorem shp_page {n : Nat} {vs : List V} (h : ShpC Tryz.prog (n + 4) 39 vs) : ∃ p : Pg, vs = (encP p).cells ∧ p.hs.length ≤ 1000000000000000 ∧ p.fs.length ≤ 1000000000000000 ∧ p.ls.length ≤ 1000000000000000 := by
  replace h := shpX_struct Tryz.underlying39 h
  simp only [ShpFs] at h
  obtain ⟨_, _, rfl, h1, _, _, rfl, h2, _, _, rfl, h3, _, _, rfl, h4, _, _, rfl, h5, rfl⟩ := h
  obtain ⟨m1, rfl, _⟩ := shpX_int Tryz.underlying3 h1
  obtain ⟨m2, rfl, _⟩ := shpX_int Tryz.underlying3 h2
  obtain ⟨l3, rfl, g3⟩ := shp_frags h3
  obtain ⟨l4, rfl, g4⟩ := shp_frags h4
  obtain ⟨l5, rfl, g5⟩ := shp_frags h5
  exact ⟨⟨m1, m2, l3, l4, l5⟩, rfl, g3, g4, g5⟩
theorem arg_pages {n : Nat} {vs : List V} (h : ShpC Tryz.prog (n + 5) 49 vs) : ∃ l, argOf Tryz.prog 49 vs = encPs l ∧ l.length ≤ 10000000000000 ∧
    ∀ p ∈ l, p.hs.length ≤ 1000000000000000 ∧ p.fs.length ≤ 1000000000000000 ∧ p.ls.length ≤ 1000000000000000 := by
  obtain ⟨rows, rfl, hl, h⟩ := shpX_slice Tryz.underlying49 h
  obtain ⟨l, rfl, hp⟩ := mapsX_of (f := encP) (p := fun p => p.hs.length ≤ 1000000000000000 ∧ p.fs.length ≤ 1000000000000000 ∧ p.ls.length ≤ 1000000000000000) fun r hr => by
    obtain ⟨cs, hc, rfl⟩ := h r hr
    obtain ⟨x, rfl, hx⟩ := shp_page hc
    exact ⟨x, by rw [agg_page]; rfl, hx⟩
  rw [bytes_page] at hl
  simp only [List.length_map,reachBytes] at hl
  exact ⟨l, by unfold argOf; rw [agg_pages, cells_page]; rfl, by omega, hp⟩
end Go.Vc
namespace Go.Vc
variable {P : Program}
abbrev Ex := FuncId × List V × V
def ExOk (P : Program) (E : List Ex) : Prop := ∀ e ∈ E, PFun P e.1 e.2.1 e.2.2
theorem ExOk.nil : ExOk P [] := fun _ h => by cases h
theorem ExOk.cons {E : List Ex} {f : FuncId} {args : List V} {v : V} (hp : PFun P f args v) (h : ExOk P E) : ExOk P ((f, args, v) :: E) := fun e he => by
  rcases List.mem_cons.1 he with rfl | he
  · exact hp
  · exact h e he
def findE (f : FuncId) (args : List V) : List Ex → Option V
  | [] => none
  | e :: E => @Bool.casesOn (fun _ => Option V) (Nat.beq e.1 f && eqLQ (eqVQ 40) e.2.1 args) (findE f args E) (some e.2.2)
theorem findE_ok {f : FuncId} {args : List V} {v : V} : ∀ {E : List Ex}, ExOk P E → findE f args E = some v → PFun P f args v
  | [], _, h => by cases h
  | e :: E, hE, h => by
    simp only [findE, bcase] at h
    split at h
    · rename_i hc
      simp only [Bool.and_eq_true] at hc
      simp only [Option.some.injEq] at h; subst h
      have := hE e (by simp)
      rw [Nat.eq_of_beq_eq_true hc.1, eqLQ_eq (eqVQ_eq 40) hc.2] at this
      exact this
    · exact findE_ok (fun e he => hE e (List.mem_cons_of_mem _ he)) h
def hasE (f : FuncId) : List Ex → Bool
  | [] => false
  | e :: E => @Bool.casesOn (fun _ => Bool) (Nat.beq e.1 f) (hasE f E) true
def orcE (E : List Ex) (f : FuncId) : Option (List V → Option V) := @Bool.casesOn (fun _ => Option (List V → Option V)) (hasE f E) none (some fun args => findE f args E)
def noneOf (f : FuncId) : List FuncId → Bool
  | [] => true
  | g :: l => @Bool.casesOn (fun _ => Bool) (Nat.beq g f) (noneOf f l) false
noncomputable def tE (P : Program) (z : List FuncId) (E : List Ex) : Tb := upT P 2000 (upT P 2000 (upT P 2000 ⟨tbF P (fun f => noneOf f z) (orcE E), fun _ => none⟩))
theorem tE_ok (hm : P.follows .mixedOrders = true) (z : List FuncId) {E : List Ex} (hE : ExOk P E) : TOk P (tE P z E) :=
  upT_ok (upT_ok (upT_ok (tbF_ok hm _ (fun f g h as1 v hv _ _ => by
    simp only [orcE, bcase] at h
    split at h
    · simp only [Option.some.injEq] at h; subst h
      exact findE_ok hE hv
    · cases h) (fun _ _ h => by cases h)) 2000) 2000) 2000
theorem ex_of (hm : P.follows .mixedOrders = true) (z : List FuncId) {E : List Ex} (hE : ExOk P E) {f : FuncId} {args : List V} {v : V} (ha : noidL args = true) (h : ev3B P (tE P z E) 3000 f args v = true) : PFun P f args v :=
  PFun.of_ev3 (tE_ok hm z hE) 3000 ha h
end Go.Vc
