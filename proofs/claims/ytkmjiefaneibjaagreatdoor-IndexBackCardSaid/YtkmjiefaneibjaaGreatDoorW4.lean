/- Part 4 of the library of this proof. -/
import Derived.Test.YtkmjiefaneibjaaGreatDoorW3
import Derived.WalkKit
import Derived.ProofKit
import Derived.Deep.Slices
import Derived.ChangeArms
import Derived.WideKeyArgs
import Derived.Carry
import Derived.SizedLaws
import Derived.Laws.RangeString
import Derived.Laws.Runes
set_option linter.all false
namespace Go.Vc
open Go.ChangeShapes Go.WideShapes Go.RowKit Go.Deep
def contig (P : Program) (total : Nat) : Nat → List Field → Bool
  | off, [] => off == total
  | off, f :: fs => f.offset == off && contig P total (off + P.cellsOf f.type) fs
def okTy (P : Program) : Nat → TypeId → Bool
  | 0, _ => false
  | n + 1, t => match P.underlying t with
    | some .bool | some (.int _) | some .string => true
    | some (.slice e) => okTy P n e && P.cellsOf e != 0
    | some (.struct fs) => contig P (P.cellsOf t) 0 fs.toList && fs.toList.all fun f => okTy P n f.type
    | _ => false
def rowOf (agg : Bool) (cs : List V) : V := if agg then .agg cs else cs.getD 0 .undef
def ShpFs (S : TypeId → List V → Prop) : List Field → List V → Prop
  | [], vs => vs = []
  | f :: fs, vs => ∃ a b, vs = a ++ b ∧ S f.type a ∧ ShpFs S fs b
def ShpC (P : Program) : Nat → TypeId → List V → Prop
  | 0, _, _ => False
  | n + 1, t, vs => match P.underlying t with
    | some .bool => ∃ b, vs = [.bool b]
    | some (.int k) => ∃ m, vs = [.int k m] ∧ (Lit.int k m).wf = true
    | some .string => ∃ s : List UInt8, vs = [.str s] ∧ s.length ≤ reachBytes
    | some (.slice e) => ∃ rows, vs = [.sl (P.cellsOf e) rows] ∧ rows.length * P.bytesOf e ≤ reachBytes ∧ ∀ r ∈ rows, ∃ cs, ShpC P n e cs ∧ r = rowOf (aggT P e) cs
    | some (.struct fs) => ShpFs (ShpC P n) fs.toList vs
    | _ => False
theorem list_of {α : Type} {Pr : Nat → α → Prop} : ∀ n, (∀ i, i < n → ∃ r, Pr i r) → ∃ rows : List α, rows.length = n ∧ ∀ i r, rows[i]? = some r → Pr i r
  | 0, _ => ⟨[], rfl, fun i r h => by simp at h⟩
  | n + 1, h => by
    obtain ⟨rows, h1, h2⟩ := list_of n fun i hi => h i (by omega)
    obtain ⟨r, hr⟩ := h n (by omega)
    refine ⟨rows ++ [r], by simp [h1], fun i x hx => ?_⟩
    rw [List.getElem?_append] at hx
    split at hx
    · exact h2 i x hx
    · rename_i hi
      have : i - rows.length = 0 := by
        rcases Nat.eq_zero_or_pos (i - rows.length) with h0 | h0
        · exact h0
        · rw [List.getElem?_eq_none (by simp; omega)] at hx; cases hx
      rw [this] at hx
      simp at hx
      subst hx
      have : i = n := by omega
      subst this
      exact hr
theorem repRows_of {μ : Mu} {ow : Nat → Prop} {w : World} {b off sz : Nat} : ∀ (rows : List V) (k : Nat), (∀ i r, rows[i]? = some r → r.cells.length = sz ∧ RepCells μ ow w r.cells b (off + (k + i) * sz)) → RepRows μ ow w rows b (off + k * sz) sz
  | [], _, _ => by simp [RepRows]
  | r :: rs, k, h => by
    have h0 := h 0 r rfl
    simp only [RepRows]
    refine ⟨h0.1, by rw [RepRow_eq]; simpa using h0.2, ?_⟩
    have e : off + k * sz + sz = off + (k + 1) * sz := by rw [Nat.add_mul]; omega
    rw [e]
    refine repRows_of rs (k + 1) fun i x hx => ?_
    have := h (i + 1) x (by simpa using hx)
    rw [show k + 1 + i = k + (i + 1) by omega]
    exact this
section
variable {H : Type} {enc : TypeId × Value → H} {P : Program} {w : World} {base : Nat} {spare : Nat → Bool} {held : Bool} {μ : Mu} {ow : Nat → Prop}
def RepShp (P : Program) (μ : Mu) (ow : Nat → Prop) (w : World) (N : Nat) (t : TypeId) (cs : List Value) : Prop :=
  ∃ vs, ShpC P N t vs ∧ RepAll μ ow w vs cs ∧ ∀ u ∈ cs, u.oneCell' = true
theorem struct_rep {S : TypeId → List V → Prop} {cs : List Value} : ∀ (fs : List Field) (off : Nat), contig P cs.length off fs = true →
    (∀ f ∈ fs, ∃ vs, S f.type vs ∧ RepAll μ ow w vs ((cs.drop f.offset).take (P.cellsOf f.type)) ∧ ∀ u ∈ (cs.drop f.offset).take (P.cellsOf f.type), u.oneCell' = true) →
    ∃ vs, ShpFs S fs vs ∧ RepAll μ ow w vs (cs.drop off) ∧ ∀ u ∈ cs.drop off, u.oneCell' = true
  | [], off, hc, _ => by
    simp only [contig, beq_iff_eq] at hc
    refine ⟨[], rfl, ?_, ?_⟩
    · rw [List.drop_eq_nil_of_le (by omega)]; simp [RepAll]
    · rw [List.drop_eq_nil_of_le (by omega)]; simp
  | f :: fs, off, hc, h => by
    simp only [contig, Bool.and_eq_true, beq_iff_eq] at hc
    obtain ⟨a, h1, h2, h3⟩ := h f (by simp)
    obtain ⟨b, h4, h5, h6⟩ := struct_rep fs (off + P.cellsOf f.type) hc.2 fun g hg => h g (by simp [hg])
    rw [hc.1] at h2 h3
    have e : cs.drop off = (cs.drop off).take (P.cellsOf f.type) ++ cs.drop (off + P.cellsOf f.type) := by
      rw [← List.drop_drop, List.take_append_drop]
    refine ⟨a ++ b, ⟨a, b, rfl, h1, h4⟩, ?_, ?_⟩
    · rw [e]; exact h2.append h5
    · rw [e]; intro u hu
      rcases List.mem_append.1 hu with hu | hu
      · exact h3 u hu
      · exact h6 u hu
theorem one_rep {v : V} {x : Value} (h : Rep μ ow w v x) : RepAll μ ow w [v] [x] := by simp only [RepAll]; exact ⟨x, [], rfl, h, rfl⟩
theorem aggT_struct {t : TypeId} {fs : Array Field} (h : P.underlying t = some (.struct fs)) : aggT P t = true := by simp [aggT, h]
theorem weightsAll_mem {e : TypeId} {d : DataW H} : ∀ {l : List (DataW H)}, d ∈ l → ∀ n ∈ d.weights P e, n ∈ DataW.weightsAll P e l
  | [], h, _, _ => by simp at h
  | x :: l, h, n, hn => by
    simp only [DataW.weightsAll, List.mem_append]
    rcases List.mem_cons.1 h with rfl | h
    · exact .inl hn
    · exact .inr (weightsAll_mem h n hn)
theorem rep_of_trod (hno : ∀ b, ¬ ow b) : ∀ (N : Nat) (fuel : Nat) (t : TypeId) (cs : List Value) (x : DataW H × List MemPlace), okTy P N t = true → (∀ n ∈ x.1.weights P t, n ≤ reachBytes) → DataW.trod enc P w base spare held fuel t cs = some x →
    RepShp P μ ow w N t cs
  | 0, _, _, _, _, h, _, _ => by simp [okTy] at h
  | N + 1, fuel, t, cs, x, hok, hwt, hx => by
    have hok' := hok
    unfold okTy at hok
    unfold RepShp
    simp only [ShpC]
    split at hok
    · rename_i ht
      obtain ⟨b, rfl, _⟩ := DataW.trod_bool ht hx
      exact ⟨[.bool b], ⟨b, rfl⟩, one_rep (by simp [Rep]), by simp [Value.oneCell']⟩
    · rename_i k ht
      obtain ⟨m, rfl, _, hw⟩ := DataW.trod_int ht hx
      exact ⟨[.int k m], ⟨m, rfl, hw⟩, one_rep (by simp [Rep]), by simp [Value.oneCell']⟩
    · rename_i ht
      obtain ⟨s, rfl, rfl, hw⟩ := DataW.trod_string ht hx
      exact ⟨[.str s.data.toList], ⟨_, rfl, hwt _ (by simp [DataW.weights])⟩, one_rep (by simp [Rep]), by simp [Value.oneCell']⟩
    · rename_i e ht
      simp only [Bool.and_eq_true, bne_iff_ne, ne_eq] at hok
      rcases open_slice ht hx with ⟨rfl, _⟩ | ⟨a, len, cap, m, n, D, Pl, rfl, hb, hl, hm, hmm, rfl, hi⟩
      · exact ⟨[.sl (P.cellsOf e) []], ⟨[], rfl, by simp, by simp⟩, one_rep (by simp only [Rep]; exact ⟨none, 0, rfl, by simp, .inl trivial⟩), by simp [Value.oneCell']⟩
      · have hlm : len ≤ m := by rw [hmm]; split <;> omega
        simp only [DataW.weights, ht] at hwt
        have hlen : len * P.bytesOf e ≤ reachBytes := by
          have := hwt _ (List.mem_cons_self ..)
          simp only [List.length_map, List.length_range] at this
          exact Nat.le_trans (Nat.mul_le_mul_right _ (by omega)) this
        have hel : ∀ i, i < len → ∃ r : V, (∃ cs, ShpC P N e cs ∧ r = rowOf (aggT P e) cs) ∧ r.cells.length = P.cellsOf e ∧ ∃ cs', RepAll μ ow w r.cells cs' ∧ (∀ u ∈ cs', u.oneCell' = true) ∧ cs'.length = P.cellsOf e ∧
            ∀ j, j < P.cellsOf e → w.cell? ((a.add (i * P.cellsOf e)).add j) = cs'[j]? := by
          intro i hi'
          obtain ⟨cs', h1, h2⟩ := hi i (by omega)
          obtain ⟨_, hcl, hat⟩ := World.cells?_some h1
          obtain ⟨vs, h3, h4, h5⟩ := rep_of_trod hno N n e cs' _ hok.1 (fun q hq => hwt q (List.mem_cons_of_mem _ (List.mem_append_left _ (weightsAll_mem (List.mem_map.2 ⟨i, by simpa using hi', rfl⟩) q hq)))) h2
          have hvl : vs.length = P.cellsOf e := by rw [← hcl, h4.length]
          have hcells : (rowOf (aggT P e) vs).cells = vs := by
            unfold rowOf
            split
            · rfl
            · rename_i hna
              cases N with
              | zero => simp [ShpC] at h3
              | succ N' =>
                unfold ShpC at h3
                split at h3
                · obtain ⟨b, rfl⟩ := h3; rfl
                · obtain ⟨b, rfl, _⟩ := h3; rfl
                · obtain ⟨b, rfl, _⟩ := h3; rfl
                · obtain ⟨b, rfl, _⟩ := h3; rfl
                · rename_i hs; exact absurd (aggT_struct hs) hna
                · exact h3.elim
          exact ⟨rowOf (aggT P e) vs, ⟨vs, h3, rfl⟩, by rw [hcells, hvl], cs', by rw [hcells]; exact h4, h5, hcl, hat⟩
        obtain ⟨rows, hr1, hr2⟩ := list_of len hel
        refine ⟨[.sl (P.cellsOf e) rows], ⟨rows, rfl, by rw [hr1]; exact hlen, fun r hr => ?_⟩, one_rep ?_, by simp [Value.oneCell']⟩
        · obtain ⟨i, hi'⟩ := List.getElem?_of_mem hr
          exact (hr2 i r hi').1
        · simp only [Rep]
          refine ⟨some a, cap, by rw [hr1], by omega, ?_⟩
          by_cases h0 : len = 0
          · left; exact List.eq_nil_of_length_eq_zero (by omega)
          · right
            have hfirst : ∃ r, rows[0]? = some r := ⟨rows[0]'(by omega), by simp⟩
            obtain ⟨r0, hr0⟩ := hfirst
            obtain ⟨_, _, cs0, _, _, hcl0, hat0⟩ := hr2 0 r0 hr0
            have hc0 := hat0 0 (by omega)
            rw [List.getElem?_eq_getElem (by omega)] at hc0
            have hspot : a.spot = none := by
              have := World.cell?_spot hc0
              simpa [Addr.add] using this
            obtain ⟨b, off, spot⟩ := a
            subst hspot
            refine ⟨b, off, rfl, hno b, by omega, ?_⟩
            have := repRows_of (μ := μ) (ow := ow) (w := w) (b := b) (off := off) (sz := P.cellsOf e) rows 0 fun i r hri => ?_
            · simpa using this
            · obtain ⟨_, h1, cs', h2, h3, h4, h5⟩ := hr2 i r hri
              refine ⟨h1, RepCells_of h2 h3 fun j u hu => ?_⟩
              have hj : j < P.cellsOf e := by rw [← h4]; exact (List.getElem?_eq_some_iff.1 hu).1
              have := h5 j hj
              rw [hu, add_plain, add_plain] at this
              rw [Nat.zero_add]
              exact this
    · rename_i fs ht
      simp only [Bool.and_eq_true] at hok
      obtain ⟨xs, n, _, rfl, hl, hxl, hf⟩ := DataW.trod_struct ht hx
      simp only [DataW.weights, ht] at hwt
      obtain ⟨vs, h1, h2, h3⟩ := struct_rep (μ := μ) (ow := ow) (w := w) (P := P) (S := ShpC P N) (cs := cs) fs.toList 0 (by rw [hl]; exact hok.1) fun f hfm => by
        obtain ⟨i, hi⟩ := List.getElem?_of_mem hfm
        have hi' : fs[i]? = some f := by simpa using hi
        have hlt : i < xs.length := by rw [hxl]; exact (Array.getElem?_eq_some_iff.1 hi').1
        have h1 := hf i f hi'
        rw [List.getElem?_eq_getElem hlt] at h1
        exact rep_of_trod hno N n f.type _ _ (List.all_eq_true.1 hok.2 f hfm) (fun q hq => hwt q (DataW.weights_mem_each (j := i) (t := f.type) (d := (xs[i]'hlt).1) (by simp [hi]) (by simp [hlt]) q hq)) h1
      exact ⟨vs, h1, by simpa using h2, by simpa using h3⟩
    · cases hok
def argOf (P : Program) (t : TypeId) (vs : List V) : V := if aggT P t then .agg vs else vs.getD 0 .undef
theorem arg_rep (hno : ∀ b, ¬ ow b) {N : Nat} {t : TypeId} {v : Value} {d : DataW H} {p : List MemPlace} {r : Reach} {b0 : Nat} (hok : okTy P N t = true) (hwt : ∀ n ∈ d.weights P t, n ≤ reachBytes) (hval : Value.okWide P w r b0 t v) (h : DataW.Trod enc P w base spare held t v d p) :
    ∃ vs, ShpC P N t vs ∧ Rep μ ow w (argOf P t vs) v := by
  obtain ⟨fuel, hf⟩ := h
  obtain ⟨vs, h1, h2, h3⟩ := rep_of_trod (μ := μ) hno N fuel t _ _ hok hwt hf
  refine ⟨vs, h1, ?_⟩
  cases N with
  | zero => simp [ShpC] at h1
  | succ N' =>
    unfold ShpC at h1
    have hone : ∀ u : V, vs = [u] → v.cells = #[v] → aggT P t = false → Rep μ ow w (argOf P t vs) v := by
      rintro u rfl hc ha
      rw [hc] at h2
      simp only [RepAll] at h2
      obtain ⟨x, xs, h4, h5, h6⟩ := h2
      simp only [List.cons.injEq] at h4
      simp only [argOf, ha, Bool.false_eq_true, if_false]
      rw [h4.1]; exact h5
    split at h1
    · rename_i ht
      obtain ⟨b, rfl⟩ := h1
      obtain ⟨x, rfl⟩ := okWide_bool ht hval
      exact hone _ rfl rfl (by simp [aggT, ht])
    · rename_i ht
      obtain ⟨b, rfl, _⟩ := h1
      obtain ⟨x, rfl⟩ := okWide_int ht hval
      exact hone _ rfl rfl (by simp [aggT, ht])
    · rename_i ht
      obtain ⟨b, rfl, _⟩ := h1
      obtain ⟨x, rfl⟩ := okWide_string ht hval
      exact hone _ rfl rfl (by simp [aggT, ht])
    · rename_i ht
      obtain ⟨b, rfl, _⟩ := h1
      obtain ⟨x, y, z, rfl⟩ := okWide_slice ht hval
      exact hone _ rfl rfl (by simp [aggT, ht])
    · rename_i ht
      obtain ⟨cs, rfl, _⟩ := okWide_struct ht hval
      simp only [argOf, aggT_struct ht, if_true, Rep]
      exact ⟨cs.toList, by simp, by simpa [Value.cells] using h2, by simpa [Value.cells] using h3⟩
    · exact h1.elim
def ShpArgs (P : Program) (N : Nat) : List TypeId → List V → Prop
  | [], us => us = []
  | t :: ts, us => ∃ vs us', us = argOf P t vs :: us' ∧ ShpC P N t vs ∧ ShpArgs P N ts us'
theorem args_rep (hno : ∀ b, ¬ ow b) {N : Nat} {r : Reach} {b0 : Nat} : ∀ {ts : List TypeId} {vs : List Value} {ds : List (DataW H)} {p : List MemPlace}, (∀ t ∈ ts, okTy P N t = true) → (∀ n ∈ DataW.weightsEach P ts ds, n ≤ reachBytes) →
    (∀ (j : Nat) t v, ts[j]? = some t → vs[j]? = some v → Value.okWide P w r b0 t v) → DataW.TrodAll enc P w base spare held ts vs ds p → ∃ us, ShpArgs P N ts us ∧ RepAll μ ow w us vs
  | [], vs, ds, p, _, _, _, h => by
    cases vs <;> cases ds <;> simp [DataW.TrodAll] at h
    exact ⟨[], rfl, by simp [RepAll]⟩
  | t :: ts, vs, ds, p, hok, hwt, hval, h => by
    obtain ⟨v, vs', d, ds', p', q, rfl, rfl, rfl, h1, h2⟩ := trodAll_cons h
    simp only [DataW.weightsEach, List.mem_append] at hwt
    obtain ⟨cs, g1, g2⟩ := arg_rep (μ := μ) (b0 := b0) hno (hok t (by simp)) (fun q hq => hwt q (.inl hq)) (hval 0 t v rfl rfl) h1
    obtain ⟨us, g3, g4⟩ := args_rep (b0 := b0) hno (fun u hu => hok u (by simp [hu])) (fun q hq => hwt q (.inr hq)) (fun j u x hj hx => hval (j + 1) u x (by simpa using hj) (by simpa using hx)) h2
    exact ⟨_ :: us, ⟨cs, us, rfl, g1, g3⟩, by simp only [RepAll]; exact ⟨v, vs', rfl, g2, g4⟩⟩
theorem trodAll_stays (hl : laidOutB P = true) : ∀ {ts : List TypeId} {vs : List Value} {ds : List (DataW H)} {p : List MemPlace} {W W' : World} {sp : Nat → Bool}, (∀ t ∈ ts, P.readableRec t = true ∧ t < P.types.size) →
    DataW.TrodAll enc P W 0 (fun _ => true) true ts vs ds p → Below W.heap.size W W' → (∀ x ∈ p, x.block < W.heap.size) → (∀ x ∈ p, sp x.block = true) → DataW.TrodAll enc P W' 0 sp true ts vs ds p
  | [], vs, ds, p, W, W', sp, _, h, _, _, _ => by
    cases vs <;> cases ds <;> simp [DataW.TrodAll] at h ⊢
    exact h
  | t :: ts, vs, ds, p, W, W', sp, ht, h, hb, hlt, hsp => by
    obtain ⟨v, vs', d, ds', p', q, rfl, rfl, rfl, h1, h2⟩ := trodAll_cons h
    refine ⟨p', q, WideElems.Trod_stays hl (ht t (by simp)).1 (ht t (by simp)).2 h1 (fun x hx => hb.same (hlt x (by simp [hx]))) (fun x hx => hsp x (by simp [hx])), ?_, rfl⟩
    exact trodAll_stays hl (fun u hu => ht u (by simp [hu])) h2 hb (fun x hx => hlt x (by simp [hx])) (fun x hx => hsp x (by simp [hx]))
end
theorem post_of_below {H : Type} {enc : TypeId × Value → H} {P : Program} {f : Func} {s : ChangeSpec} {apart fresh handsOn again : Bool} {W W' : World} {args : Array Value} {v : Value} {ds gs : List (DataW H)} {before pa pv : List MemPlace}
    (hW : DataW.Whole enc P f.params.toList s.vars apart W args.toList ds gs before)
    (hres : ∀ (b : Nat) (sp : Nat → Bool) (hd : Bool), DataW.TrodAll enc P W' b sp hd f.resultTypes.toList (v.resultList f.resultTypes.size) (s.fn H (ds ++ gs)).results [])
    (hargs : ∀ sp : Nat → Bool, (∀ p ∈ before, sp p.block = true) → DataW.TrodAll enc P W' 0 sp true f.params.toList args.toList (s.fn H (ds ++ gs)).args pa)
    (hvars : ∀ sp : Nat → Bool, (∀ p ∈ before, sp p.block = true) → DataW.TrodVars enc P W' sp s.vars (s.fn H (ds ++ gs)).vars pv)
    (hps : before = pa ++ pv) (hb : Below W.heap.size W W')
    (hok : ∀ (j : Nat) (t : TypeId) (r : Value), f.resultTypes[j]? = some t → (v.resultList f.resultTypes.size)[j]? = some r → Value.okWide P W' .any 0 t r) :
    s.post enc P f apart fresh handsOn again W args v W' := by
  have hlt : ∀ p ∈ before, p.block < W.heap.size := fun p hp => hW.lt p hp
  have hold : ∀ p ∈ before, (fun b => decide (b < W.heap.size)) p.block = true := fun p hp => by simpa using hlt p hp
  refine ⟨ds, gs, before, [], pa, pv, hW, hres _ _ _, hargs _ hold, hvars _ hold, World.keptBut_mono (fun p hp => ⟨hp, ?_⟩) (hb.frame (· ∈ before)), fun _ => ?_⟩
  · rw [hps, List.mem_append] at hp
    exact Or.inr hp
  · obtain ⟨_, _, _, _, _, hz, hn⟩ := hW
    refine ⟨hok, _, _, ([] ++ pa) ++ pv, ⟨[] ++ pa, pv, trodAll_append (hargs _ (fun _ _ => rfl)) (hres _ _ _), hvars _ (fun _ _ => rfl), rfl, ?_, ?_⟩, ?_⟩
    · intro b off hp
      have hin : MemPlace.cell b off ∈ before := by rw [hps]; simpa using hp
      rw [hb.frozen (hlt _ hin)]
      exact hz b off hin
    · intro ha
      have := hn ha
      rw [hps] at this
      simpa using this
    · intro p hp _
      rw [hps]
      simpa using hp
theorem law_post {H : Type} {enc : TypeId × Value → H} {P : Program} {f : Func} {i : FuncId} {s : ChangeSpec} {N : Nat} (hfs : P.funcs[i]? = some f) (hl : laidOutB P = true)
    (hts : f.params.toList.all (fun t => okTy P N t && (P.readableRec t && decide (t < P.types.size))) = true) (hvars : s.vars = []) {tb : TypeId} (hres : f.resultTypes = #[tb]) (htb : P.underlying tb = some .bool)
    (hfn : ∀ ds, ds.length = f.params.size → s.fn H ds = ⟨[.lit (.bool true)], ds, []⟩)
    (hlaw : ∀ us, ShpArgs P N f.params.toList us → PFun P i us (.bool true))
    {apart fresh handsOn again : Bool} {W : World} {base : Nat} {args : Array Value} {ds gs : List (DataW H)} {before : List MemPlace}
    (hval : ∀ (j : Nat) t v, f.params[j]? = some t → args[j]? = some v → Value.okWide P W .any base t v)
    (hW : DataW.Whole enc P f.params.toList s.vars apart W args.toList ds gs before) (hvt : s.plain.varTypes P = [])
    (hsz : (DataW.weightsEach P (f.params.toList ++ s.plain.varTypes P) (ds ++ gs)).all (· ≤ reachBytes) = true) (hO : Orig W) :
    Calls P i args W fun e W' => ∃ v, e = .returned v ∧ s.post enc P f apart fresh handsOn again W args v W' := by
  have hW' := hW
  obtain ⟨p, q, hA, hV, rfl, hfz, hnd⟩ := hW
  have hts' := List.all_eq_true.1 hts
  simp only [Bool.and_eq_true, decide_eq_true_eq] at hts'
  rw [hvars] at hV
  have hnoV : gs = [] ∧ q = [] := by
    cases gs with
    | nil => exact ⟨rfl, by simpa [DataW.TrodVars] using hV⟩
    | cons g gs => simp [DataW.TrodVars] at hV
  obtain ⟨rfl, rfl⟩ := hnoV
  have hno : ∀ b, ¬ Owned (fun _ => Pl.unborn) nost b := fun b ⟨_, _, _, _, h, _⟩ => by simp [nost] at h
  obtain ⟨us, hsh, hrep⟩ := args_rep (μ := fun _ => Pl.unborn) (ow := Owned (fun _ => Pl.unborn) nost) (b0 := base) (r := .any) hno (fun t ht => (hts' t ht).1)
    (by rw [hvt, List.append_nil, List.append_nil] at hsz; intro n hn; simpa using List.all_eq_true.1 hsz n hn) (fun j t v hj hv => hval j t v (by simpa using hj) (by simpa using hv)) hA
  have hsat : Sat W (Owned (fun _ => Pl.unborn) nost) (fun _ => Pl.unborn) nost W :=
    ⟨Nat.le_refl _, rfl, rfl, rfl, fun _ _ _ => rfl, ⟨0, fun _ _ => rfl⟩, fun _ _ _ _ _ _ _ _ _ h => by simp [nost] at h, fun _ _ h => by simp [nost] at h, fun b hb => (hno b hb).elim, ⟨W, hO, Nat.le_refl _, fun i _ => ⟨hno i, rfl⟩⟩⟩
  have hcall := (hlaw us hsh nost).2 (fun _ => Pl.unborn) W args.toList hsat hrep
  rw [Array.toArray_toList] at hcall
  refine hcall.mono ?_
  rintro e W' ⟨r, σ', μ', val, rfl, ⟨rfl, rfl⟩, _, hs', hr⟩
  simp only [Rep] at hr
  subst hr
  have hbel : Below W.heap.size W W' := ⟨hs'.os, hs'.tape, hs'.output, hs'.size, fun k hk => hs'.same k hk (hno k)⟩
  have hlen : ds.length = f.params.size := by
    have key : ∀ {ts : List TypeId} {vs : List Value} {ds : List (DataW H)} {p : List MemPlace}, DataW.TrodAll enc P W 0 (fun _ => true) true ts vs ds p → ds.length = ts.length := by
      intro ts
      induction ts with
      | nil => intro vs ds p h; cases vs <;> cases ds <;> simp [DataW.TrodAll] at h ⊢
      | cons t ts ih =>
        intro vs ds p h
        obtain ⟨_, _, _, _, _, _, _, rfl, _, _, h2⟩ := trodAll_cons h
        simp [ih h2]
    simpa using key hA
  have hfn' := hfn ds hlen
  refine ⟨.bool true, rfl, post_of_below (pa := p) (pv := []) hW' ?_ ?_ ?_ rfl hbel ?_⟩
  · intro b sp hd
    rw [List.append_nil, hfn', hres]
    exact ⟨[], [], shut_bool htb _, rfl, rfl⟩
  · intro sp hsp
    rw [List.append_nil, hfn']
    refine trodAll_stays hl (fun t ht => (hts' t ht).2) hA hbel (fun x hx => by simpa using hW'.lt x (by simpa using hx)) (fun x hx => hsp x (by simpa using hx))
  · intro sp _
    rw [List.append_nil, hfn', hvars]
    rfl
  · exact ok_one hres rfl (okWide_bool_mk htb _)
end Go.Vc
namespace Go.Vc
variable {P : Program} {n : Nat} {st : St} {Q : St → Prop} {k : List It} {μ : Mu} {w w' : World}
abbrev gh (o : Obj) (env : List V := []) : Ob := ⟨0, 0, .obj o :: env⟩
theorem Sat.newG {w0 : World} {ow0 : Nat → Prop} {σ : Store} (h : Sat w0 ow0 μ σ w) (o : Obj) (env : List V) (he : RepAll μ (Owned μ σ) w env (tmpsOf o)) :
    ∃ id, σ id = none ∧ ∃ μ' : Mu, μ' id = .lies w.heap.size 0 0 ∧ MuLe μ μ' ∧ Sat w0 ow0 μ' (upd σ id (gh o env)) (w.alloc o) ∧ Keeps (Owned μ σ) (Owned μ' (upd σ id (gh o env))) w (w.alloc o) := by
  obtain ⟨id, hid, hσ, hfin⟩ := h.unborn
  have hle : MuLe μ (fun k => if k = id then .lies w.heap.size 0 0 else μ k) := fun k hk => by
    have : k ≠ id := fun e' => hk (e' ▸ hid)
    simp [this]
  refine ⟨id, hσ, fun k => if k = id then .lies w.heap.size 0 0 else μ k, by simp, hle, ?_⟩
  refine h.put (row := none) (World.grownBy_alloc w o none) (by simp) hle (hfin _) id (gh o env) (fun o' ho => ?_) (fun i o' hi ho => ?_) (fun b' sz' cap' hb' => ?_) (fun hk => ?_)
  · simp [upd] at ho; exact ho.symm
  · simp only [upd, if_neg hi] at ho
    exact ⟨ho, by simp⟩
  · simp only [if_true, Pl.lies.injEq] at hb'
    exact .inr (by omega)
  · simp only [if_true]
    exact .inr ⟨rfl, rfl, o, env, rfl, World.alloc_heap_new w o, RepAll.mono hle hk (by simp) _ _ he⟩
theorem Sat.setG {w0 : World} {ow0 : Nat → Prop} {σ : Store} (h : Sat w0 ow0 μ σ w) {id b cap : Nat} {o : Ob} (ho : σ id = some o) (hid : μ id = .lies b 0 cap) (o' : Obj) (env : List V) (he : RepAll μ (Owned μ σ) w env (tmpsOf o')) :
    Sat w0 ow0 μ (upd σ id (gh o' env)) (w.putObj b o') ∧ Keeps (Owned μ σ) (Owned μ (upd σ id (gh o' env))) w (w.putObj b o') := by
  have hlt : b < w.heap.size := Owned.lt h ⟨id, o, 0, cap, ho, hid⟩
  refine h.put (grownBy_putObj' w b o') (fun b' hb' => by cases hb'; exact ⟨id, o, 0, cap, ho, hid⟩) (MuLe.refl _) h.fin id (gh o' env) (fun x hx' => by simp [upd] at hx'; exact hx'.symm)
    (fun i x hi hx' => ?_) (fun b' sz' cap' hb' => ?_) (fun hk => ?_)
  · simp only [upd, if_neg hi] at hx'
    refine ⟨hx', fun b' sz' cap' h4 h5 => hi ?_⟩
    cases h5
    exact h.inj i id x o _ _ _ _ _ hx' ho h4 hid
  · rw [hid] at hb'; cases hb'; exact .inl rfl
  · rw [hid]
    exact .inr ⟨rfl, rfl, o', env, rfl, World.putObj_heap_same hlt, RepAll.mono (MuLe.refl _) hk (by simp) _ _ he⟩
theorem Sat.getG {w0 : World} {ow0 : Nat → Prop} {σ : Store} (h : Sat w0 ow0 μ σ w) {id b cap : Nat} {o : Obj} {env : List V} (ho : σ id = some (gh o env)) (hid : μ id = .lies b 0 cap) : w.heap[b]? = some o ∧ RepAll μ (Owned μ σ) w env (tmpsOf o) := by
  have := h.obj id _ ho
  rw [hid] at this
  rcases this with ⟨_, _, _, h1, _⟩ | ⟨_, _, ob, env', h1, h2, h3⟩
  · omega
  · simp only [List.cons.injEq, V.obj.injEq] at h1
    obtain ⟨rfl, rfl⟩ := h1; exact ⟨h2, h3⟩
theorem cop_rngS {o : Op} {xv : VX} (h : cop P n o = .rngS false xv) : ∃ t x, o = .range t x ∧ P.underlying t = some .string ∧ cx n x = xv := by
  cases o
  case range t x =>
    simp only [cop] at h
    split at h
    · rename_i ht; simp only [VOp.rngS.injEq, true_and] at h; exact ⟨t, x, rfl, ht, h⟩
    · cases h
  case call c =>
    obtain ⟨callee, args, argTypes⟩ := c
    cases callee
    case builtin b => cases b <;> simp only [cop, nilB] at h <;> (repeat' split at h) <;> cases h
    all_goals (simp only [cop, nilB] at h; cases h)
  case unOp op t x => cases op <;> simp only [cop, nilB] at h <;> cases h
  case makeFunc f a b => cases f <;> simp only [cop, nilB] at h <;> (repeat' split at h) <;> cases h
  all_goals (simp only [cop, nilB] at h; (repeat' split at h) <;> cases h)
theorem cop_nxtS {o : Op} {xv : VX} (h : cop P n o = .nxtS xv) : ∃ x, o = .next x true ∧ cx n x = xv := by
  cases o
  case next x b =>
    simp only [cop] at h
    split at h
    · rename_i hb; subst hb; simp only [VOp.nxtS.injEq] at h; exact ⟨x, rfl, h⟩
    · cases h
  case call c =>
    obtain ⟨callee, args, argTypes⟩ := c
    cases callee
    case builtin b => cases b <;> simp only [cop, nilB] at h <;> (repeat' split at h) <;> cases h
    all_goals (simp only [cop, nilB] at h; cases h)
  case unOp op t x => cases op <;> simp only [cop, nilB] at h <;> cases h
  case makeFunc f a b => cases f <;> simp only [cop, nilB] at h <;> (repeat' split at h) <;> cases h
  all_goals (simp only [cop, nilB] at h; (repeat' split at h) <;> cases h)
theorem Runs.rngS {i : VIns} {l : List VIns} {xv : VX} (hw : wantV st.s i.g = some true) (ho : i.op = .rngS false xv) {s : List UInt8} (hx : xv.ev st.s = .str s)
    (h : ∀ id, st.σ id = none → Runs P n (.ops l :: k) ⟨putO st.s i.dst (.gp id), upd st.σ id (gh (.stringIter ⟨s.toArray⟩ 0))⟩ Q) : Runs P n (.ops (i :: l) :: k) st Q := by
  refine Runs.ins (by rw [ho]; simp) hw fun F hn μ a w o all hi hs next Q' hnext => ?_
  subst hn
  obtain ⟨hop, hd⟩ := cins_op hi
  rw [ho] at hop
  obtain ⟨t, x, h1, h2, rfl⟩ := cop_rngS hop
  have hr := rep_cx hs x
  rw [hx] at hr
  simp only [Rep] at hr
  obtain ⟨id, hid, μ', g1, g2, g3, g4⟩ := hs.sat.newG (.stringIter ⟨s.toArray⟩ 0) [] (by simp [RepAll, tmpsOf])
  unfold Oper.wp
  have hrun : (execOp a.eval o).run P w = .ok (.value (.pointer (some ⟨w.heap.size, 0, none⟩))) (w.alloc (.stringIter ⟨s.toArray⟩ 0)) := by
    unfold execOp
    rw [h1]
    simp only [hr, Sem.run_bind, run_range_string w t ⟨s.toArray⟩ h2, Result.andThen_ok, Sem.run_pure]
    rfl
  rw [hrun]
  refine hnext _ _ _ ⟨μ', ?_⟩ (h id hid)
  rw [← hd]
  exact hs.step g3 g2 g4 (by simp) (by simp [Rep, g1])
theorem Runs.nxtS {i : VIns} {l : List VIns} {xv : VX} (hw : wantV st.s i.g = some true) (ho : i.op = .nxtS xv) {id : Nat} (hx : xv.ev st.s = .gp id) {s : List UInt8} {pos : Nat}
    (hσ : st.σ id = some (gh (.stringIter ⟨s.toArray⟩ pos)))
    (h1 : pos < s.length → Runs P n (.ops l :: k) ⟨putO st.s i.dst (.tup [.bool true, .int .i64 pos, .int .i32 (Utf8.decode ⟨s.toArray⟩ pos).1]),
      upd st.σ id (gh (.stringIter ⟨s.toArray⟩ (pos + (Utf8.decode ⟨s.toArray⟩ pos).2)))⟩ Q)
    (h2 : ¬ pos < s.length → Runs P n (.ops l :: k) ⟨putO st.s i.dst (.tup [.bool false]), st.σ⟩ Q) : Runs P n (.ops (i :: l) :: k) st Q := by
  refine Runs.ins (by rw [ho]; simp) hw fun F hn μ a w o all hi hs next Q' hnext => ?_
  subst hn
  obtain ⟨hop, hd⟩ := cins_op hi
  rw [ho] at hop
  obtain ⟨x, h3, rfl⟩ := cop_nxtS hop
  have hr := rep_cx hs x
  rw [hx] at hr
  simp only [Rep] at hr
  split at hr
  · rename_i b cap hid
    have hob := (hs.sat.getG hσ hid).1
    have hsz : (ByteArray.mk s.toArray).size = s.length := by simp [ByteArray.size]
    unfold Oper.wp
    by_cases hp : pos < s.length
    · have hrun : (execOp a.eval o).run P w = .ok (.value (.tuple #[.bool true, .int .i64 pos, .int .i32 (Utf8.decode ⟨s.toArray⟩ pos).1]))
          (w.putObj b (.stringIter ⟨s.toArray⟩ (pos + (Utf8.decode ⟨s.toArray⟩ pos).2))) := by
        unfold execOp
        rw [h3]
        simp [hr, Instr.next, getObj, setObj, Sem.run, hob, hsz, hp, World.putObj, goInt]
      rw [hrun]
      have hset := hs.sat.setG hσ hid (.stringIter ⟨s.toArray⟩ (pos + (Utf8.decode ⟨s.toArray⟩ pos).2)) [] (by simp [RepAll, tmpsOf])
      refine hnext _ _ _ ⟨μ, ?_⟩ (h1 hp)
      rw [← hd]
      exact hs.step hset.1 (MuLe.refl _) hset.2 (by simp) (by simp only [Rep]; exact ⟨_, rfl, by simp [RepAll, Rep]⟩)
    · have hrun : (execOp a.eval o).run P w = .ok (.value (.tuple #[.bool false])) w := by
        unfold execOp
        rw [h3]
        simp [hr, Instr.next, getObj, Sem.run, hob, hsz, hp]
      rw [hrun]
      refine hnext _ _ _ ⟨μ, ?_⟩ (h2 hp)
      rw [← hd]
      exact hs.pure (by simp only [Rep]; exact ⟨_, rfl, by simp [RepAll, Rep]⟩)
  · exact hr.elim
end Go.Vc
namespace Go.Vc
variable {P : Program} {n : Nat} {st : St} {Q : St → Prop} {k : List It} {μ : Mu} {w w' : World}
theorem Sat.compose {w0 : World} {ow0 : Nat → Prop} {μ μ' : Mu} {σ σ' : Store} (h0 : Sat w0 ow0 μ σ w) (hs' : Sat w (Owned μ σ) μ' σ' w') :
    Sat w0 ow0 μ' σ' w' ∧ Keeps (Owned μ σ) (Owned μ' σ') w w' := by
  have hkeep : Keeps (Owned μ σ) (Owned μ' σ') w w' := fun b hb hn => ⟨fun ho => hn (hs'.fresh b ho hb), hs'.same b hb hn⟩
  refine ⟨⟨Nat.le_trans h0.size hs'.size, hs'.os.trans h0.os, hs'.tape.trans h0.tape, hs'.output.trans h0.output, ?_, hs'.fin, hs'.inj, hs'.obj, ?_, h0.glob⟩, hkeep⟩
  · intro b hb hn
    have h1 : ¬ Owned μ σ b := fun ho => hn (h0.fresh b ho hb)
    exact (hs'.same b (Nat.lt_of_lt_of_le hb h0.size) h1).trans (h0.same b hb hn)
  · intro b hb hlt
    exact h0.fresh b (hs'.fresh b hb (Nat.lt_of_lt_of_le hlt h0.size)) hlt
theorem Sat.here {w0 : World} {ow0 : Nat → Prop} {σ : Store} (h : Sat w0 ow0 μ σ w) : Sat w (Owned μ σ) μ σ w :=
  ⟨Nat.le_refl _, rfl, rfl, rfl, fun _ _ _ => rfl, h.fin, h.inj, h.obj, fun b hb _ => hb, h.globHere⟩
def YC (P : Program) (idl : Nat) (x : List V) (σ : Store) (Post : Bool → Store → Prop) : Prop :=
  ∀ μ w vals l c, μ idl = .lies l 0 c → Sat w (Owned μ σ) μ σ w → RepAll μ (Owned μ σ) w x vals →
    YieldAt Fence.wide 0 P l vals.toArray w fun e w' => ∃ b σ' μ', e = .returned (.bool b) ∧ Post b σ' ∧ MuLe μ μ' ∧ Sat w (Owned μ σ) μ' σ' w'
theorem roundIn_fence {F : Fr} {m m' : Nat} {l : Nat} {f : FuncId} {tmps : Array Value} {assign body : Code} {R : Ending → World → Prop}
    (h : RoundIn Fence.wide m P l f tmps assign body w R) : RoundIn F.fence m' P l f tmps assign body w R :=
  ⟨trivial, fun c cs _ => h.2 c cs (room_wide _)⟩
theorem Runs.ycall {i : VIns} {l : List VIns} {fx : VX} {xs : List VX} (hw : wantV st.s i.g = some true) (ho : i.op = .call fx xs) {idl : Nat} (hf : fx.ev st.s = .yl idl)
    {Post : Bool → Store → Prop} (hc : YC P idl (xs.map (·.ev st.s)) st.σ Post)
    (h : ∀ b σ', Post b σ' → Runs P n (.ops l :: k) ⟨putO st.s i.dst (.bool b), σ'⟩ Q) : Runs P n (.ops (i :: l) :: k) st Q := by
  refine Runs.insIn hw fun F hn μ a w o all hi hs next Q' hnext => ?_
  subst hn
  obtain ⟨hop, hd⟩ := cins_op hi
  rw [ho] at hop
  obtain ⟨f0, args, argTypes, g1, rfl, rfl⟩ := cop_call hop
  have hfr := rep_cx hs f0
  rw [hf] at hfr
  simp only [Rep] at hfr
  split at hfr
  · rename_i lb c hid
    have hargs := rep_cxs hs args.toList
    obtain ⟨fn, tmps, assign, body, hy, hR⟩ := hc μ w _ lb c hid hs.sat.here hargs
    have hrun : (execOp a.eval o).run P w = .ok (.round lb fn tmps assign body) w := by
      unfold execOp
      rw [g1]
      simp only [resolve, hfr, Deferred.ofValue, Sem.run_bind, Sem.run_pure, Result.andThen_ok, invoke]
      rw [← hy]
      congr 2
      apply Array.ext'
      simp
    refine ⟨fun _ _ => trivial, ?_⟩
    rw [Oper.semAt_eq _ _ _ (by rw [g1]; intro c e; cases e), hrun]
    refine ⟨fence_depth F, roundIn_fence (hR.mono ?_)⟩
    rintro e w' ⟨b, σ', μ', rfl, hp, hle, hs'⟩
    obtain ⟨h1, h2⟩ := hs.sat.compose hs'
    refine hnext _ _ _ ⟨μ', ?_⟩ (h b σ' hp)
    rw [← hd]
    exact hs.step h1 hle h2 hs'.size (by simp [Rep])
  · exact hfr.elim
def Beside (σJ σ σJ' σ' : Store) : Prop := SubStore σJ' σ' ∧ ∀ id o, σJ id = none → σ id = some o → σ' id = some o ∧ σJ' id = none
theorem Beside.refl {σJ σ : Store} (h : SubStore σJ σ) : Beside σJ σ σJ σ := ⟨h, fun _ _ h1 h2 => ⟨h2, h1⟩⟩
theorem Beside.set {σJ σ σJ' σ' : Store} (h : Beside σJ σ σJ' σ') {id : Nat} {o o' : Ob} (hid : σJ' id = some o) : Beside σJ σ (upd σJ' id o') (upd σ' id o') :=
  ⟨h.1.upd2, fun i x h1 h2 => by
    obtain ⟨h3, h4⟩ := h.2 i x h1 h2
    have : i ≠ id := fun e => by rw [e, hid] at h4; cases h4
    simp [Vc.upd, this, h3, h4]⟩
theorem Beside.new {σJ σ σJ' σ' : Store} (h : Beside σJ σ σJ' σ') {id : Nat} {o : Ob} (hid : σ' id = none) : Beside σJ σ (upd σJ' id o) (upd σ' id o) :=
  ⟨h.1.upd2, fun i x h1 h2 => by
    obtain ⟨h3, h4⟩ := h.2 i x h1 h2
    have : i ≠ id := fun e => by rw [e, hid] at h3; cases h3
    simp [Vc.upd, this, h3, h4]⟩
theorem Beside.new' {σJ σ σJ' σ' : Store} (h : Beside σJ σ σJ' σ') {id : Nat} {o : Ob} (hid : σ' id = none) : Beside σJ σ σJ' (upd σ' id o) :=
  ⟨h.1.trans (SubStore.upd (SubStore.refl _) hid), fun i x h1 h2 => by
    obtain ⟨h3, h4⟩ := h.2 i x h1 h2
    have : i ≠ id := fun e => by rw [e, hid] at h3; cases h3
    simp [Vc.upd, this, h3, h4]⟩
def Iter (P : Program) (g : FuncId) (caps : List V) (xs : List (List V)) : Prop :=
  callable P g = true ∧ ∀ (idl : Nat) (J Jx : List (List V) → Store → Prop) (σ0 : Store),
    (∀ pre x post σJ σ, xs = pre ++ x :: post → J pre σJ → SubStore σJ σ →
      YC P idl x σ fun b σ' => ∃ σJ', Beside σJ σ σJ' σ' ∧ ((b = true ∧ J (pre ++ [x]) σJ') ∨ (b = false ∧ Jx (pre ++ [x]) σJ'))) →
    J [] σ0 → PCall P g (.yl idl :: caps) σ0 fun _ σ' => J xs σ' ∨ ∃ pre, pre <+: xs ∧ Jx pre σ'
end Go.Vc
namespace Go.Vc
variable {P : Program} {n : Nat} {st : St} {Q : St → Prop} {k : List It} {μ : Mu} {w w' : World}
def putL (s : Nat → V) : List Nat → List V → Nat → V
  | p :: ps, x :: xs => putL (fun i => if i = p then x else s i) ps xs
  | _, _ => s
def exK : List (Nat × (St → Prop)) → List It
  | [] => []
  | (id, I) :: l => .inBlock id :: .stop I :: exK l
theorem del_sub {σ σ' : Store} {id : Nat} (h : SubStore σ σ') : SubStore (del σ id) (del σ' id) := fun i o e => by
  unfold del at e ⊢
  split at e
  · cases e
  · rename_i hi; rw [if_neg hi]; exact h i o e
theorem Sat.more {w0 : World} {ow0 : Nat → Prop} {σ : Store} (h : Sat w0 ow0 μ σ w) (o : Obj) : Sat w0 ow0 μ σ (w.alloc o) ∧ Keeps (Owned μ σ) (Owned μ σ) w (w.alloc o) := by
  have hsame : ∀ b, b < w.heap.size → (w.alloc o).heap[b]? = w.heap[b]? := fun b hb => Go.RowKit.Below.heap_alloc w o b hb
  have hk : Keeps (Owned μ σ) (Owned μ σ) w (w.alloc o) := fun b hb hn => ⟨hn, hsame b hb⟩
  refine ⟨⟨by have := h.size; simp; omega, h.os, h.tape, h.output, fun b hb hn => (hsame b (Nat.lt_of_lt_of_le hb h.size)).trans (h.same b hb hn), h.fin, h.inj, fun id ob ho => ?_, h.fresh, h.glob⟩, hk⟩
  exact (h.obj id ob ho).mono (MuLe.refl μ) hk (by simp) fun b sz cap hp => hsame b (Owned.lt h ⟨id, ob, sz, cap, ho, hp⟩)
theorem SatM.enter {F : Fr} {a : Act} (hs : SatM F μ st a w) (fn : FuncId) (ps : Array Tmp) (assign body : Code) :
    ∃ mark W0 D, SatM F μ st { a with defers := mark ++ a.defers } W0 ∧ (Instr.enterLoop fn a.tmps ps assign body F.fence.round).run P w =
      .ok (W0.heap.size, mark) (W0.alloc (.loop { state := .ready, pending := none, fn, tmps := a.tmps, params := ps, assign, body, defers := D })) := by
  cases hrd : F.rd with
  | some lr =>
    obtain ⟨l0, r0⟩ := lr
    obtain ⟨h1, _⟩ := hs.book.rnd l0 r0 hrd
    refine ⟨[], w, r0.defers, hs, ?_⟩
    have : F.fence.round = some l0 := by simp [Fr.fence, hrd]
    rw [this]
    exact run_enterLoop_inner h1 fn a.tmps ps assign body
  | none =>
    have : F.fence.round = none := by simp [Fr.fence, hrd]
    rw [this]
    refine ⟨[{ target := .collected w.heap.size, args := #[] }], w.alloc (.deferred (some [])), w.heap.size, ?_, ?_⟩
    · obtain ⟨h1, hk⟩ := hs.sat.more (.deferred (some []))
      have hb := hs.book.keep hk
      refine ⟨h1, hs.le, hs.size, ⟨hb.rnd, ?_⟩, fun i hi => Rep.mono (MuLe.refl μ) hk (by simp) _ _ (hs.slot i hi)⟩
      obtain ⟨Ds, g1, g2, g3⟩ := hb.marks
      obtain ⟨Ds', g1', g2', g3'⟩ := hs.book.marks
      refine ⟨w.heap.size :: Ds', by simp [g1'], ?_, ?_⟩
      · refine List.nodup_cons.2 ⟨fun hin => ?_, g2'⟩
        have := (Array.getElem?_eq_some_iff.1 (g3' _ hin).2.1).1
        omega
      · intro D hD
        simp only [List.mem_cons] at hD
        rcases hD with rfl | hD
        · refine ⟨hs.sat.size, World.alloc_heap_new w _, fun ho => ?_⟩
          have := Owned.lt hs.sat ho
          omega
        · obtain ⟨q1, q2, q3⟩ := g3' D hD
          have hlt := (Array.getElem?_eq_some_iff.1 q2).1
          exact ⟨q1, (hk D hlt q3).2.trans q2, q3⟩
    · rw [run_enterLoop_outer]
      simp
theorem foldl_get (ps : List Nat) : ∀ (xs : List Value) (t : Array Value) (vs : List V) (s : Nat → V) {ow : Nat → Prop} (m : Nat), t.size = m → RepAll μ ow w vs xs → vs.length = ps.length →
    (∀ i, i < m → Rep μ ow w (s i) (t.getD i undef)) →
    ((ps.zip xs).foldl (fun t (p, v) => t.setIfInBounds p v) t).size = m ∧ ∀ i, i < m → Rep μ ow w (putL s ps vs i) (((ps.zip xs).foldl (fun t (p, v) => t.setIfInBounds p v) t).getD i undef) := by
  induction ps with
  | nil => intro xs t vs s ow m ht _ _ hi; exact ⟨by simpa using ht, by simpa [putL] using hi⟩
  | cons p ps ih =>
    intro xs t vs s ow m ht hv hl hi
    cases vs with
    | nil => simp at hl
    | cons v vs =>
      simp only [RepAll] at hv
      obtain ⟨x, xs', rfl, h1, h2⟩ := hv
      simp only [List.zip_cons_cons, List.foldl_cons, putL]
      refine ih xs' (t.setIfInBounds p x) vs _ m (by simp [ht]) h2 (by simpa using hl) fun i hlt => ?_
      by_cases hip : i = p
      · subst hip
        rw [if_pos rfl, Array.getD_eq_getD_getElem?, Array.getElem?_setIfInBounds_self_of_lt (by omega)]
        exact h1
      · rw [if_neg hip, Array.getD_eq_getD_getElem?, Array.getElem?_setIfInBounds_ne (fun e => hip e.symm), ← Array.getD_eq_getD_getElem?]
        exact hi i hlt
end Go.Vc
namespace Go.Vc
variable {P : Program} {n : Nat} {st : St} {Q : St → Prop} {k : List It} {μ : Mu} {w w' : World}
theorem poke_cells {b : Nat} {o o' : Obj} (h : w.heap[b]? = some o) (hc : ∀ off x, w.cell? ⟨b, off, none⟩ ≠ some x) :
    (∀ b', b' ≠ b → (w.putObj b o').heap[b']? = w.heap[b']?) ∧ ∀ (ow : Nat → Prop), KeepsC ow ow w (w.putObj b o') := by
  have hne : ∀ b', b' ≠ b → (w.putObj b o').heap[b']? = w.heap[b']? := fun b' hb => World.putObj_heap_other hb
  refine ⟨hne, fun ow b' _ hn => ⟨hn, fun off x hx => ?_⟩⟩
  by_cases hb : b' = b
  · subst hb; exact absurd hx (hc off x)
  · exact cells_of_heap (hne b' hb) off x hx
theorem no_cells_loop {b : Nat} {r : Loop} (h : w.heap[b]? = some (.loop r)) : ∀ off x, w.cell? ⟨b, off, none⟩ ≠ some x := fun off x => by simp [World.cell?, h]
theorem SatM.poke {F F' : Fr} {a : Act} {l : Nat} {r r' : Loop} (hs : SatM F μ st a w) (hF : F.rd = some (l, r)) (hF' : F' = { F with rd := some (l, r') }) (hl : l < F.w0.heap.size → F.ow0 l) :
    SatM F' μ st a (w.putObj l (.loop r')) := by
  subst hF'
  obtain ⟨h1, h2⟩ := hs.book.rnd l r hF
  obtain ⟨hne, hk⟩ := poke_cells (o' := .loop r') h1 (no_cells_loop h1)
  have hk := hk (Owned μ st.σ)
  have hz : w.heap.size ≤ (w.putObj l (.loop r')).heap.size := by simp
  have hlt := (Array.getElem?_eq_some_iff.1 h1).1
  refine ⟨⟨by simpa using hs.sat.size, hs.sat.os, hs.sat.tape, hs.sat.output, fun b hb hn => ?_, hs.sat.fin, hs.sat.inj, fun id o ho => ?_, hs.sat.fresh, hs.sat.glob⟩, hs.le, hs.size, ⟨fun l' r'' e => ?_, ?_⟩, fun i hi => Rep.monoC (MuLe.refl μ) hk hz _ _ (hs.slot i hi)⟩
  · by_cases hb' : b = l
    · subst hb'; exact absurd (hl hb) hn
    · exact (hne b hb').trans (hs.sat.same b hb hn)
  · refine (hs.sat.obj id o ho).monoC (MuLe.refl μ) hk hz fun b sz cap hp => hne b ?_
    rintro rfl
    exact h2 ⟨id, o, sz, cap, ho, hp⟩
  · simp only [Option.some.injEq, Prod.mk.injEq] at e
    obtain ⟨rfl, rfl⟩ := e
    exact ⟨World.putObj_heap_same hlt, h2⟩
  · obtain ⟨Ds, g1, g2, g3⟩ := hs.book.marks
    refine ⟨Ds, g1, g2, fun D hD => ?_⟩
    obtain ⟨q1, q2, q3⟩ := g3 D hD
    refine ⟨q1, (hne D ?_).trans q2, q3⟩
    rintro rfl
    rw [h1] at q2; cases q2
theorem Sat.regain {w0 : World} {ow0 : Nat → Prop} {σ : Store} (h : Sat w0 ow0 μ σ w) {idl l c : Nat} (hσ : σ idl = none) (hid : μ idl = .lies l 0 c) (hno : ¬ Owned μ σ l) {r : Loop} (hr : w.heap[l]? = some (.loop r))
    (hl : l < w0.heap.size → ow0 l) (o : Obj) (env : List V) (he : RepAll μ (Owned μ σ) w env (tmpsOf o)) : Sat w0 ow0 μ (upd σ idl (gh o env)) (w.putObj l o) := by
  obtain ⟨hne, _⟩ := poke_cells (o' := o) hr (no_cells_loop hr)
  have hlt := (Array.getElem?_eq_some_iff.1 hr).1
  have hz : w.heap.size ≤ (w.putObj l o).heap.size := by simp
  have hown : ∀ b, Owned μ (upd σ idl (gh o env)) b → Owned μ σ b ∨ b = l := by
    rintro b ⟨id, ob, sz, cap, h1, h2⟩
    by_cases e : id = idl
    · subst e; rw [hid] at h2; cases h2; exact .inr rfl
    · rw [upd_ne e] at h1; exact .inl ⟨id, ob, sz, cap, h1, h2⟩
  have hk : KeepsC (Owned μ σ) (Owned μ (upd σ idl (gh o env))) w (w.putObj l o) := fun b ⟨off, x, hx⟩ hn => by
    have hbl : b ≠ l := by rintro rfl; exact no_cells_loop hr off x hx
    exact ⟨fun ho => (hown b ho).elim hn hbl, cells_of_heap (hne b hbl)⟩
  refine ⟨by simpa using h.size, h.os, h.tape, h.output, fun b hb hn => ?_, h.fin, ?_, ?_, ?_, h.glob⟩
  · by_cases hb' : b = l
    · subst hb'; exact absurd (hl hb) hn
    · exact (hne b hb').trans (h.same b hb hn)
  · intro id id' ob ob' b sz cap sz' cap' h1 h2 h3 h4
    by_cases e : id = idl <;> by_cases e' : id' = idl
    · rw [e, e']
    · exfalso
      subst e; rw [hid] at h3; cases h3
      rw [upd_ne e'] at h2
      exact hno ⟨id', ob', sz', cap', h2, h4⟩
    · exfalso
      subst e'; rw [hid] at h4; cases h4
      rw [upd_ne e] at h1
      exact hno ⟨id, ob, sz, cap, h1, h3⟩
    · rw [upd_ne e] at h1; rw [upd_ne e'] at h2
      exact h.inj id id' ob ob' b sz cap sz' cap' h1 h2 h3 h4
  · intro id ob ho
    by_cases e : id = idl
    · subst e
      rw [upd_same] at ho; cases ho
      rw [hid]
      exact .inr ⟨rfl, rfl, o, env, rfl, World.putObj_heap_same hlt, RepAll.monoC (MuLe.refl μ) hk hz _ _ he⟩
    · rw [upd_ne e] at ho
      refine (h.obj id ob ho).monoC (MuLe.refl μ) hk hz fun b sz cap hp => hne b ?_
      rintro rfl
      exact hno ⟨id, ob, sz, cap, ho, hp⟩
  · intro b hb hlt'
    rcases hown b hb with h1 | h1
    · exact h.fresh b h1 hlt'
    · subst h1; exact hl hlt'
end Go.Vc
namespace Go.Vc
variable {P : Program} {n : Nat} {st : St} {Q : St → Prop} {k : List It} {μ : Mu} {w w' : World}
def exKI : List (Nat × (St → Prop)) → List KI
  | [] => []
  | (id, I) :: l => .inBlock id :: .stop I :: exKI l
theorem exKI_it : ∀ (l : List (Nat × (St → Prop))), (exKI l).map (KI.it P n) = exK l
  | [] => rfl
  | (id, I) :: l => by simp [exKI, exK, KI.it, exKI_it l]
theorem kont_exits {F : Fr} {e : Exit} {a : Act} (he : e ≠ .normal) : ∀ (l : List (Nat × (St → Prop))), Kont P F Q (exKI l) e a w →
    (e = .ret ∧ ∃ st, Q st ∧ SatF F st a w) ∨ ∃ id I, (id, I) ∈ l ∧ e = .exit id ∧ ∃ st, I st ∧ SatF F st a w
  | [], h => .inl ⟨h.1.resolve_left he, h.2⟩
  | (id, I) :: l, h => by
    have h : Exit.inBlock id (Kont P F Q (.stop I :: exKI l)) e a w := h
    have up : Kont P F Q (exKI l) e a w → _ := kont_exits he l
    have go : Kont P F Q (exKI l) e a w → (e = .ret ∧ ∃ st, Q st ∧ SatF F st a w) ∨ ∃ id' I', (id', I') ∈ (id, I) :: l ∧ e = .exit id' ∧ ∃ st, I' st ∧ SatF F st a w := fun h => by
      rcases up h with h | ⟨i, I', h1, h2⟩
      · exact .inl h
      · exact .inr ⟨i, I', by simp [h1], h2⟩
    cases e with
    | normal => exact absurd rfl he
    | exit j =>
      simp only [Exit.inBlock] at h
      by_cases hj : j = id
      · rw [if_pos hj] at h
        exact .inr ⟨id, I, by simp, by rw [hj], h⟩
      · rw [if_neg hj] at h
        exact go h
    | _ => exact go h
def jumpOf : Option Nat → Code
  | none => .ret
  | some id => .exit id
theorem round_YC {rec : Loop} (hready : rec.state = .ready) (hpend : rec.pending = none) (htm : rec.tmps.size = n) {s : Nat → V} {idl : Nat} {x : List V} {σJ σ : Store}
    (hx : x.length = rec.params.toList.length) (hrow : σJ idl = some (gh (.loop rec) ((List.range n).map s))) (hsub : SubStore σJ σ)
    (Jn : Store → Prop) (exits : List Nat) (Jx : Option Nat → Store → Prop)
    (hb : Runs P n [.code (ccode P n rec.assign), .stop fun st1 => Runs P n (.code (ccode P n rec.body) :: .stop (fun st2 => ∃ σ2, Beside (del σJ idl) (del σ idl) σ2 st2.σ ∧ Jn σ2) ::
      exK (exits.map fun id => (id, fun st2 => ∃ σ2, Beside (del σJ idl) (del σ idl) σ2 st2.σ ∧ Jx (some id) σ2))) st1 (fun st2 => ∃ σ2, Beside (del σJ idl) (del σ idl) σ2 st2.σ ∧ Jx none σ2)]
      ⟨putL s rec.params.toList x, del σ idl⟩ (fun _ => False)) :
    YC P idl x σ fun b σ' => ∃ σJ', Beside σJ σ σJ' σ' ∧ ((b = true ∧ σJ' idl = some (gh (.loop rec) ((List.range n).map s)) ∧ Jn (del σJ' idl)) ∨
      (b = false ∧ ∃ e : Option Nat, σJ' idl = some (gh (.loop { rec with state := .done, pending := some (jumpOf e) }) ((List.range n).map s)) ∧ Jx e (del σJ' idl) ∧ ∀ id, e = some id → id ∈ exits)) := by
  intro μ3 w3 vals l c hid hsat hrep
  have hσ := hsub _ _ hrow
  obtain ⟨hl, henv⟩ := hsat.getG hσ hid
  have hvl : vals.length = rec.params.toList.length := by rw [← hx]; exact hrep.length
  have hy := run_yield (P := P) (args := vals.toArray) hl (by simpa using hvl)
  have hno : ¬ Owned μ3 (del σ idl) l := by
    rintro ⟨id, o, sz, cap, h1, h2⟩
    have := hsat.inj id idl o _ l sz cap 0 c (SubStore.of_del σ idl id o h1) hσ h2 hid
    subst this
    simp [del] at h1
  have hks : Keeps (Owned μ3 σ) (Owned μ3 (del σ idl)) w3 w3 := Keeps.sub w3 (SubStore.of_del σ idl)
  have hslots : ∀ i, i < n → Rep μ3 (Owned μ3 (del σ idl)) w3 (s i) (rec.tmps.getD i undef) := fun i hi => by
    have hv : ((List.range n).map s)[i]? = some (s i) := by simp [hi]
    obtain ⟨y, h1, h2⟩ := henv.get hv
    have : rec.tmps.getD i undef = y := by
      simp only [tmpsOf] at h1
      rw [Array.getD_eq_getD_getElem?, ← Array.getElem?_toList, h1]; rfl
    rw [this]
    exact Rep.mono (MuLe.refl _) hks (Nat.le_refl _) _ _ h2
  obtain ⟨hg1, hg2⟩ := foldl_get rec.params.toList vals rec.tmps x s n htm (RepAll.mono (MuLe.refl _) hks (Nat.le_refl _) _ _ hrep) hx hslots
  have hzip : (rec.params.zip vals.toArray).foldl (fun tmps (t, a) => tmps.setIfInBounds t a) rec.tmps = (rec.params.toList.zip vals).foldl (fun t (p, v) => t.setIfInBounds p v) rec.tmps := by
    rw [← Array.foldl_toList, Array.toList_zip]
  rw [hzip] at hy
  refine ⟨rec.fn, _, rec.assign, rec.body, hy, roundIn_of_wpIn (F := Fence.wide) trivial ?_⟩
  have hs1 : SatM ⟨w3, Owned μ3 σ, μ3, n, some (l, rec)⟩ μ3 ⟨putL s rec.params.toList x, del σ idl⟩ { tmps := (rec.params.toList.zip vals).foldl (fun t (p, v) => t.setIfInBounds p v) rec.tmps, defers := [] } w3 := by
    refine ⟨hsat.drop (SubStore.of_del σ idl), MuLe.refl _, hg1, ⟨fun l' r' e => ?_, [], rfl, .nil, by simp⟩, hg2⟩
    simp only [Option.some.injEq, Prod.mk.injEq] at e
    obtain ⟨rfl, rfl⟩ := e
    exact ⟨hl, hno⟩
  have h1 := hb ⟨w3, Owned μ3 σ, μ3, n, some (l, rec)⟩ rfl [.code rec.assign, .stop _] rfl _ w3 ⟨μ3, hs1⟩
  refine wpIn_mono (F := Fence.wide.inRound l) h1 ?_
  intro e a1 w1 h
  cases e with
  | normal =>
    obtain ⟨st1, hI, μ4, hs4⟩ := h
    have hpk := hs4.poke (F' := ⟨w3, Owned μ3 σ, μ3, n, some (l, { rec with state := .busy })⟩) (r' := { rec with state := .busy }) rfl rfl (fun _ => ⟨idl, _, 0, c, hσ, hid⟩)
    refine ⟨_, run_beginRound (hs4.book.rnd l rec rfl).1 hready, ?_⟩
    have h2 := hI ⟨w3, Owned μ3 σ, μ3, n, some (l, { rec with state := .busy })⟩ rfl (.code rec.body :: .stop _ :: exKI _) (by simp only [List.map_cons, exKI_it]; rfl) a1 _ ⟨μ4, hpk⟩
    refine wpIn_mono (F := Fence.wide.inRound l) h2 ?_
    have fin : ∀ (st2 : St) (a2 : Act) (w2 : World) (jump : Option Code) (σ2 : Store), SatF ⟨w3, Owned μ3 σ, μ3, n, some (l, { rec with state := .busy })⟩ st2 a2 w2 → Beside (del σJ idl) (del σ idl) σ2 st2.σ →
        ∃ v w'', (Instr.endRound l jump).run P w2 = .ok v w'' ∧ v = .bool jump.isNone ∧ ∃ σ' μ' σJ', MuLe μ3 μ' ∧ Sat w3 (Owned μ3 σ) μ' σ' w'' ∧ Beside σJ σ σJ' σ' ∧
          σJ' idl = some (gh (.loop { rec with state := if jump.isNone then .ready else .done, pending := jump }) ((List.range n).map s)) ∧ del σJ' idl = σ2 := by
      rintro st2 a2 w2 jump σ2 ⟨μ5, hs5⟩ hbs
      obtain ⟨q1, q2⟩ := hs5.book.rnd l _ rfl
      have hid5 : μ5 idl = .lies l 0 c := (hs5.le idl (show μ3 idl ≠ .unborn by rw [hid]; simp)).trans hid
      have hn5 : st2.σ idl = none := by
        cases h : st2.σ idl with
        | none => rfl
        | some o => exact absurd ⟨idl, o, 0, c, h, hid5⟩ q2
      have hk5 : Keeps (Owned μ3 σ) (Owned μ5 st2.σ) w3 w2 := fun b hb hn => ⟨fun ho => hn (hs5.sat.fresh b ho hb), hs5.sat.same b hb hn⟩
      have henv5 := RepAll.mono hs5.le hk5 hs5.sat.size _ _ henv
      have hn2 : σ2 idl = none := by
        cases h : σ2 idl with
        | none => rfl
        | some o => have := hbs.1 idl o h; rw [hn5] at this; cases this
      refine ⟨_, _, run_endRound (P := P) jump q1, rfl, upd st2.σ idl (gh (.loop { rec with state := if jump.isNone then .ready else .done, pending := jump }) ((List.range n).map s)), μ5,
        upd σ2 idl (gh (.loop { rec with state := if jump.isNone then .ready else .done, pending := jump }) ((List.range n).map s)), hs5.le, ?_, ⟨hbs.1.upd2, fun i o h1 h2 => ?_⟩, upd_same, del_upd hn2⟩
      · exact hs5.sat.regain hn5 hid5 q2 q1 (fun _ => ⟨idl, _, 0, c, hσ, hid⟩) _ _ henv5
      · have hne : i ≠ idl := fun e => by rw [e, hrow] at h1; cases h1
        obtain ⟨g1, g2⟩ := hbs.2 i o (by rw [del_ne hne]; exact h1) (by rw [del_ne hne]; exact h2)
        rw [upd_ne hne, upd_ne hne]
        exact ⟨g1, g2⟩
    intro e a2 w2 h
    cases e with
    | normal =>
      obtain ⟨st2, ⟨σ2, hbs, hj⟩, hs2⟩ := h
      obtain ⟨v, w'', g1, rfl, σ', μ', σJ', g2, g3, g4, g5, g6⟩ := fin st2 a2 w2 none σ2 hs2 hbs
      refine ⟨_, w'', g1, true, σ', μ', rfl, ⟨σJ', g4, .inl ⟨rfl, ?_, by rw [g6]; exact hj⟩⟩, g2, g3⟩
      rw [g5]
      have : ({ rec with state := .ready, pending := none } : Loop) = rec := by rw [← hready, ← hpend]
      simp [this]
    | ret =>
      rcases kont_exits (by simp) _ h with ⟨_, st2, ⟨σ2, hbs, hj⟩, hs2⟩ | ⟨_, _, _, h, _⟩
      · obtain ⟨v, w'', g1, rfl, σ', μ', σJ', g2, g3, g4, g5, g6⟩ := fin st2 a2 w2 (some .ret) σ2 hs2 hbs
        exact ⟨_, w'', g1, false, σ', μ', rfl, ⟨σJ', g4, .inr ⟨rfl, none, g5, by rw [g6]; exact hj, by simp⟩⟩, g2, g3⟩
      · cases h
    | exit id =>
      rcases kont_exits (by simp) _ h with ⟨h, _⟩ | ⟨id', I, hin, h, st2, hI2, hs2⟩
      · cases h
      · cases h
        simp only [List.mem_map, Prod.mk.injEq] at hin
        obtain ⟨id'', hin', rfl, rfl⟩ := hin
        obtain ⟨σ2, hbs, hj⟩ := hI2
        obtain ⟨v, w'', g1, rfl, σ', μ', σJ', g2, g3, g4, g5, g6⟩ := fin st2 a2 w2 (some (.exit id'')) σ2 hs2 hbs
        exact ⟨_, w'', g1, false, σ', μ', rfl, ⟨σJ', g4, .inr ⟨rfl, some id'', g5, by rw [g6]; exact hj, by simp [hin']⟩⟩, g2, g3⟩
    | goto t => rcases kont_exits (by simp) _ h with ⟨h, _⟩ | ⟨_, _, _, h, _⟩ <;> cases h
    | panic ch => rcases kont_exits (by simp) _ h with ⟨h, _⟩ | ⟨_, _, _, h, _⟩ <;> cases h
    | outgrown => rcases kont_exits (by simp) _ h with ⟨h, _⟩ | ⟨_, _, _, h, _⟩ <;> cases h
  | ret => exact h.2.choose_spec.1.elim
  | exit id => rcases h.1 with h | h <;> cases h
  | goto t => rcases h.1 with h | h <;> cases h
  | panic ch => rcases h.1 with h | h <;> cases h
  | outgrown => rcases h.1 with h | h <;> cases h
end Go.Vc
namespace Go.Vc
variable {P : Program} {n : Nat} {st : St} {Q : St → Prop} {k : List It} {μ : Mu} {w w' : World}
theorem run_rangeCall {a : Act} {g : Operand} {l : Nat} {f : FuncId} {cv : List Value} (h : a.eval g = .func (.func f) #[] ⟨cv⟩) :
    (resolve a.eval (rangeCall g l) 0).run P w = .ok { target := .fn (.func f) ⟨cv⟩, args := #[.func (.yield l) #[] #[]] } w := by
  simp only [resolve, h, Deferred.ofValue]
  simp [go_sem]
def IterC (P : Program) (g : FuncId) (caps : List V) (C : Store) (xs : List (List V)) : Prop :=
  callable P g = true ∧ ∀ (idl : Nat) (J Jx : List (List V) → Store → Prop) (σ0 σ1 : Store),
    (∀ pre x post σJ σ, xs = pre ++ x :: post → J pre σJ → SubStore σJ σ →
      YC P idl x σ fun b σ' => ∃ σJ', Beside σJ σ σJ' σ' ∧ ((b = true ∧ J (pre ++ [x]) σJ') ∨ (b = false ∧ Jx (pre ++ [x]) σJ'))) →
    J [] σ0 → SubStore σ0 σ1 → (∀ i o, C i = some o → σ1 i = some o ∧ σ0 i = none) → PCall P g (.yl idl :: caps) σ1 fun _ σ' => J xs σ' ∨ ∃ pre, pre <+: xs ∧ Jx pre σ'
theorem Runs.rangeFX {g : VX} {ps : List Nat} {A B : VCode} {gf : FuncId} {caps : List V} (hg : g.ev st.s = .fn gf caps) {xs : List (List V)} {σ0 : Store} (hs00 : SubStore σ0 st.σ)
    (hit : callable P gf = true ∧ ∀ (idl : Nat) (J Jx : List (List V) → Store → Prop) (o : Ob), st.σ idl = none →
      (∀ pre x post σJ σ, xs = pre ++ x :: post → J pre σJ → SubStore σJ σ →
        YC P idl x σ fun b σ' => ∃ σJ', Beside σJ σ σJ' σ' ∧ ((b = true ∧ J (pre ++ [x]) σJ') ∨ (b = false ∧ Jx (pre ++ [x]) σJ'))) →
      J [] (upd σ0 idl o) → PCall P gf (.yl idl :: caps) (upd st.σ idl o) fun _ σ' => J xs σ' ∨ ∃ pre, pre <+: xs ∧ Jx pre σ')
    (hlen : ∀ x ∈ xs, x.length = ps.length) (exits : List Nat) (J : List (List V) → Store → Prop) (Jx : Option Nat → List (List V) → Store → Prop) (h0 : J [] σ0)
    (hbody : ∀ pre x post σJ σ, xs = pre ++ x :: post → J pre σJ → SubStore σJ σ →
      Runs P n [.code A, .stop fun st1 => Runs P n (.code B :: .stop (fun st2 => ∃ σ2, Beside σJ σ σ2 st2.σ ∧ J (pre ++ [x]) σ2) ::
        exK (exits.map fun id => (id, fun st2 => ∃ σ2, Beside σJ σ σ2 st2.σ ∧ Jx (some id) (pre ++ [x]) σ2))) st1 (fun st2 => ∃ σ2, Beside σJ σ σ2 st2.σ ∧ Jx none (pre ++ [x]) σ2)]
        ⟨putL st.s ps x, σ⟩ (fun _ => False))
    (hdone : ∀ σ', J xs σ' → Runs P n k ⟨st.s, σ'⟩ Q)
    (hexit : ∀ id ∈ exits, ∀ pre σ', pre <+: xs → Jx (some id) pre σ' → Runs P n (.code (.exit id) :: k) ⟨st.s, σ'⟩ Q)
    (hret : ∀ pre σ', pre <+: xs → Jx none pre σ' → Runs P n (.code .ret :: k) ⟨st.s, σ'⟩ Q) : Runs P n (.code (.rangeF g ps A B) :: k) st Q := by
  intro F hn kt hk a w hs
  subst hn
  obtain ⟨z, kt', rfl, hy, hk'⟩ := kt_cons hk
  obtain ⟨c0, rfl, hc⟩ := it_code hy
  have hc0 : ∃ g0 ps0 a0 b0, c0 = .rangeFunc g0 ps0 a0 b0 ∧ cx F.n g0 = g ∧ ps0.toList = ps ∧ ccode P F.n a0 = A ∧ ccode P F.n b0 = B := by
    cases c0 <;> simp only [ccode, reduceCtorEq, VCode.rangeF.injEq] at hc
    case region => (split at hc; cases hc); split at hc <;> cases hc
    exact ⟨_, _, _, _, rfl, hc.1, hc.2.1, hc.2.2.1, hc.2.2.2⟩
  obtain ⟨g0, ps0, a0, b0, rfl, rfl, rfl, rfl, rfl⟩ := hc0
  obtain ⟨μ, hs⟩ := hs
  have hrg := rep_cx hs g0
  rw [hg] at hrg
  simp only [Rep] at hrg
  obtain ⟨cv, hgv, hcv⟩ := hrg
  refine wpIn_rangeFunc fun fn _ => ?_
  obtain ⟨mark, W0, D, hs0, hrun⟩ := hs.enter (P := P) fn ps0 a0 b0
  generalize hrec : ({ state := .ready, pending := none, fn, tmps := a.tmps, params := ps0, assign := a0, body := b0, defers := D } : Loop) = rec at hrun
  have hr1 : rec.state = .ready := by rw [← hrec]
  have hr2 : rec.pending = none := by rw [← hrec]
  have hr3 : rec.tmps = a.tmps := by rw [← hrec]
  have hr4 : rec.params = ps0 := by rw [← hrec]
  have hr5 : rec.assign = a0 := by rw [← hrec]
  have hr6 : rec.body = b0 := by rw [← hrec]
  have hszn : rec.tmps.size = F.n := by rw [hr3]; exact hs.size
  have henv : RepAll μ (Owned μ st.σ) W0 ((List.range F.n).map st.s) (tmpsOf (.loop rec)) := by
    have hl : tmpsOf (.loop rec) = (List.range F.n).map fun i => a.tmps.getD i undef := by
      simp only [tmpsOf, hr3]
      apply List.ext_getElem
      · simp [hs.size]
      · intro i h1 h2
        simp only [List.length_map, List.length_range] at h2
        simp only [Array.getElem_toList, List.getElem_map, List.getElem_range]
        rw [Array.getD_eq_getD_getElem?, Array.getElem?_eq_getElem (by rw [hs.size]; exact h2)]
        rfl
    rw [hl]
    have hall : ∀ l : List Nat, (∀ i ∈ l, i < F.n) → RepAll μ (Owned μ st.σ) W0 (l.map st.s) (l.map fun i => a.tmps.getD i undef) := by
      intro l
      induction l with
      | nil => intro _; simp [RepAll]
      | cons i l ih =>
        intro h
        simp only [List.map_cons, RepAll]
        exact ⟨_, _, rfl, hs0.slot i (h i (by simp)), ih fun j hj => h j (by simp [hj])⟩
    exact hall _ fun i hi => by simpa using hi
  obtain ⟨idl, hidn, μ1, hid1, hle1, hsat1, hk1⟩ := hs0.sat.newG (.loop rec) _ henv
  generalize hE : (List.range F.n).map st.s = env at *
  have hcvt : RepAll μ1 (Owned μ1 (upd st.σ idl (gh (.loop rec) env))) (W0.alloc (.loop rec)) caps cv := by
    have h1 : RepAll μ (Owned μ st.σ) W0 caps cv := by
      have h2 := rep_cx hs0 g0
      rw [hg] at h2
      simp only [Rep] at h2
      obtain ⟨cv', h3, h4⟩ := h2
      have : a.eval g0 = .func (.func gf) #[] ⟨cv'⟩ := h3
      rw [hgv] at this
      simp only [Value.func.injEq, Array.mk.injEq, true_and] at this
      rw [this]; exact h4
    exact RepAll.mono hle1 hk1 (by simp) _ _ h1
  obtain ⟨hcall, hiter⟩ := hit
  have key := hiter idl (fun pre σJ => σJ idl = some (gh (.loop rec) env) ∧ J pre (del σJ idl))
    (fun pre σJ => ∃ e : Option Nat, σJ idl = some (gh (.loop { rec with state := .done, pending := some (jumpOf e) }) env) ∧ Jx e pre (del σJ idl) ∧ ∀ id, e = some id → id ∈ exits)
    (gh (.loop rec) env) hidn ?_ ⟨upd_same, by rw [del_upd (hs00.none hidn)]; exact h0⟩
  · refine ⟨W0.heap.size, mark, _, _, _, gf, _, _, by rw [show F.fence.round = F.fence.round from rfl]; exact hrun, run_rangeCall hgv, fun _ _ => trivial,
      by simp only [invoke]; exact run_callFunc hcall _, fence_depth F, callsIn_fence ?_⟩
    have hargs : RepAll μ1 (Owned μ1 (upd st.σ idl (gh (.loop rec) env))) (W0.alloc (.loop rec)) (.yl idl :: caps) (.func (.yield W0.heap.size) #[] #[] :: cv) := by
      simp only [RepAll]
      exact ⟨_, _, rfl, by simp [Rep, hid1], hcvt⟩
    have hcl := key μ1 _ _ hsat1.here hargs
    have hvals : (Value.func (.yield W0.heap.size) #[] #[] :: cv).toArray = #[.func (.yield W0.heap.size) #[] #[]] ++ ⟨cv⟩ := by
      apply Array.ext'; simp
    rw [hvals] at hcl
    refine hcl.mono ?_
    rintro e w2 ⟨r, σ', μ', val, rfl, hp, hle2, hs2, -⟩
    obtain ⟨hs3, hk3⟩ := hsat1.compose hs2
    have hid2 : μ' idl = .lies W0.heap.size 0 0 := (hle2 idl (by rw [hid1]; simp)).trans hid1
    -- the end of the loop, whatever the record
    have fin : ∀ (rec2 : Loop), σ' idl = some (gh (.loop rec2) env) → rec2.state ≠ .busy → ∃ w4, (Instr.endLoop W0.heap.size).run P w2 = .ok rec2.pending w4 ∧
        SatF F ⟨st.s, del σ' idl⟩ { a with defers := mark ++ a.defers } w4 := by
      intro rec2 hrow hst
      obtain ⟨hl2, henv2⟩ := hs2.getG hrow hid2
      refine ⟨_, run_endLoop hl2 hst, μ', ?_⟩
      have hset := hs3.setG hrow hid2 (.loop { rec2 with state := .exhausted }) env henv2
      have hsub : SubStore (del σ' idl) (upd σ' idl (gh (.loop { rec2 with state := .exhausted }) env)) := fun i o h => by
        unfold del at h
        split at h
        · cases h
        · rename_i hi; rw [upd_ne hi]; exact h
      have hks := Keeps.sub (μ := μ') (w2.putObj W0.heap.size (.loop { rec2 with state := .exhausted })) hsub
      have hsz2 := hs2.size
      have hkall : Keeps (Owned μ st.σ) (Owned μ' (del σ' idl)) W0 (w2.putObj W0.heap.size (.loop { rec2 with state := .exhausted })) := fun b hb hn => by
        obtain ⟨q1, q2⟩ := hk1 b hb hn
        have hb1 : b < (W0.alloc (.loop rec)).heap.size := by simp; omega
        obtain ⟨q3, q4⟩ := hk3 b hb1 q1
        have hb2 : b < w2.heap.size := Nat.lt_of_lt_of_le hb1 hsz2
        obtain ⟨q5, q6⟩ := hset.2 b hb2 q3
        exact ⟨fun ho => q5 (ho.sub hsub), q6.trans (q4.trans q2)⟩
      have hle3 : MuLe μ μ' := hle1.trans hle2
      have hz : W0.heap.size ≤ (w2.putObj W0.heap.size (.loop { rec2 with state := .exhausted })).heap.size := by
        simp at hsz2 ⊢; omega
      exact ⟨hset.1.drop hsub, hs0.le.trans hle3, hs0.size, hs0.book.keep hkall, fun i hi => Rep.mono hle3 hkall hz _ _ (hs0.slot i hi)⟩
    rcases hp with ⟨hrow, hj⟩ | ⟨pre, hpre, e, hrow, hj, hin⟩
    · obtain ⟨w4, g1, g2⟩ := fin rec hrow (by rw [hr1]; simp)
      refine ⟨_, w4, g1, ?_⟩
      rw [hr2]
      exact hdone _ hj F rfl kt' hk' _ _ g2
    · obtain ⟨w4, g1, g2⟩ := fin _ hrow (by simp)
      refine ⟨_, w4, g1, ?_⟩
      cases e with
      | none => exact hret pre _ hpre hj F rfl (.code .ret :: kt') (by simp [KI.it, hk', ccode]) _ _ g2
      | some id => exact hexit id (hin id rfl) pre _ hpre hj F rfl (.code (.exit id) :: kt') (by simp [KI.it, hk', ccode]) _ _ g2
  · intro pre x post σJ σ hxs hJ hsub
    have hx : x.length = rec.params.toList.length := by rw [hr4]; exact hlen x (by rw [hxs]; simp)
    have hb := hbody pre x post (del σJ idl) (del σ idl) hxs hJ.2 (del_sub hsub)
    subst hE
    refine round_YC hr1 hr2 hszn hx hJ.1 hsub (J (pre ++ [x])) exits (fun e => Jx e (pre ++ [x])) ?_
    rw [hr4, hr5, hr6]
    exact hb
theorem Runs.rangeF {g : VX} {ps : List Nat} {A B : VCode} {gf : FuncId} {caps : List V} (hg : g.ev st.s = .fn gf caps) {xs : List (List V)} (hit : Iter P gf caps xs)
    (hlen : ∀ x ∈ xs, x.length = ps.length) (exits : List Nat) (J : List (List V) → Store → Prop) (Jx : Option Nat → List (List V) → Store → Prop) (h0 : J [] st.σ)
    (hbody : ∀ pre x post σJ σ, xs = pre ++ x :: post → J pre σJ → SubStore σJ σ →
      Runs P n [.code A, .stop fun st1 => Runs P n (.code B :: .stop (fun st2 => ∃ σ2, Beside σJ σ σ2 st2.σ ∧ J (pre ++ [x]) σ2) ::
        exK (exits.map fun id => (id, fun st2 => ∃ σ2, Beside σJ σ σ2 st2.σ ∧ Jx (some id) (pre ++ [x]) σ2))) st1 (fun st2 => ∃ σ2, Beside σJ σ σ2 st2.σ ∧ Jx none (pre ++ [x]) σ2)]
        ⟨putL st.s ps x, σ⟩ (fun _ => False))
    (hdone : ∀ σ', J xs σ' → Runs P n k ⟨st.s, σ'⟩ Q)
    (hexit : ∀ id ∈ exits, ∀ pre σ', pre <+: xs → Jx (some id) pre σ' → Runs P n (.code (.exit id) :: k) ⟨st.s, σ'⟩ Q)
    (hret : ∀ pre σ', pre <+: xs → Jx none pre σ' → Runs P n (.code .ret :: k) ⟨st.s, σ'⟩ Q) : Runs P n (.code (.rangeF g ps A B) :: k) st Q :=
  Runs.rangeFX hg (SubStore.refl _) ⟨hit.1, fun idl J' Jx' _ _ hb h => hit.2 idl J' Jx' _ hb h⟩ hlen exits J Jx h0 hbody hdone hexit hret
theorem Runs.rangeFC {g : VX} {ps : List Nat} {A B : VCode} {gf : FuncId} {caps : List V} (hg : g.ev st.s = .fn gf caps) {xs : List (List V)} {C σ0 : Store} (hit : IterC P gf caps C xs) (hs0 : SubStore σ0 st.σ) (hC : ∀ i o, C i = some o → st.σ i = some o ∧ σ0 i = none)
    (hlen : ∀ x ∈ xs, x.length = ps.length) (exits : List Nat) (J : List (List V) → Store → Prop) (Jx : Option Nat → List (List V) → Store → Prop) (h0 : J [] σ0)
    (hbody : ∀ pre x post σJ σ, xs = pre ++ x :: post → J pre σJ → SubStore σJ σ →
      Runs P n [.code A, .stop fun st1 => Runs P n (.code B :: .stop (fun st2 => ∃ σ2, Beside σJ σ σ2 st2.σ ∧ J (pre ++ [x]) σ2) ::
        exK (exits.map fun id => (id, fun st2 => ∃ σ2, Beside σJ σ σ2 st2.σ ∧ Jx (some id) (pre ++ [x]) σ2))) st1 (fun st2 => ∃ σ2, Beside σJ σ σ2 st2.σ ∧ Jx none (pre ++ [x]) σ2)]
        ⟨putL st.s ps x, σ⟩ (fun _ => False))
    (hdone : ∀ σ', J xs σ' → Runs P n k ⟨st.s, σ'⟩ Q)
    (hexit : ∀ id ∈ exits, ∀ pre σ', pre <+: xs → Jx (some id) pre σ' → Runs P n (.code (.exit id) :: k) ⟨st.s, σ'⟩ Q)
    (hret : ∀ pre σ', pre <+: xs → Jx none pre σ' → Runs P n (.code .ret :: k) ⟨st.s, σ'⟩ Q) : Runs P n (.code (.rangeF g ps A B) :: k) st Q :=
  Runs.rangeFX hg hs0 ⟨hit.1, fun idl J' Jx' _ hn hb h => hit.2 idl J' Jx' _ _ hb h hs0.upd2 fun i o' hi => by
    obtain ⟨h1, h2⟩ := hC i o' hi
    have hne : i ≠ idl := fun e => by rw [e, hn] at h1; cases h1
    exact ⟨(upd_ne hne).trans h1, (upd_ne hne).trans h2⟩⟩ hlen exits J Jx h0 hbody hdone hexit hret
end Go.Vc
namespace Go.Vc
variable {P : Program} {n : Nat} {st : St} {Q : St → Prop} {k : List It}
def readyV (deps : List (List Nat)) (listed : List Nat) : List Nat := (List.range deps.length).filter fun i => !listed.contains i && (deps.getD i []).all listed.contains
def allV (P : Program) (l : List VIns) (rec : List Nat → St → Prop) (listed : List Nat) (x : St) : List Nat → Prop
  | [] => True
  | i :: is => (match l[i]? with
      | some ins => T P ins x (rec (i :: listed))
      | none => False) ∧ allV P l rec listed x is
def anyV (P : Program) (l : List VIns) (deps : List (List Nat)) (Q : St → Prop) : Nat → List Nat → St → Prop
  | 0, listed, x => readyV deps listed = [] ∧ Q x
  | f + 1, listed, x => match readyV deps listed with
      | [] => Q x
      | i :: is => allV P l (anyV P l deps Q f) listed x (i :: is)
theorem allV_mem {l : List VIns} {rec : List Nat → St → Prop} {listed : List Nat} {x : St} : ∀ {is : List Nat}, allV P l rec listed x is → ∀ i ∈ is, ∃ ins, l[i]? = some ins ∧ T P ins x (rec (i :: listed))
  | [], _, _, hi => by cases hi
  | j :: is, h, i, hi => by
    obtain ⟨h1, h2⟩ := h
    rcases List.mem_cons.1 hi with rfl | hi
    · cases hl : l[i]? with
      | none => rw [hl] at h1; exact h1.elim
      | some ins => rw [hl] at h1; exact ⟨ins, rfl, h1⟩
    · exact allV_mem h2 i hi
abbrev depsOf (ops : Array Oper) : List (List Nat) := ops.toList.map fun o => (o.after.toList.filter (Region.binds .any)).map (·.on)
theorem readyV_eq {ops : Array Oper} {arr : Array Bool} {listed : List Nat} (hs : arr.size = ops.size) (hl : ∀ i, i < ops.size → arr.getD i true = listed.contains i)
    (ho : ∀ i ∈ listed, i < ops.size) : Region.ready .any ops arr = readyV (depsOf ops) listed := by
  unfold Region.ready readyV
  have hlen : (depsOf ops).length = ops.size := by simp [depsOf]
  rw [hlen]
  refine List.filter_congr fun i hi => ?_
  have hi : i < ops.size := by simpa using hi
  rw [hl i hi]
  congr 1
  have h1 : ops[i]? = some ops[i] := Array.getElem?_eq_getElem hi
  have h2 : (depsOf ops).getD i [] = (ops[i].after.toList.filter (Region.binds .any)).map (·.on) := by
    rw [List.getD_eq_getElem?_getD]
    simp [depsOf, hi]
  rw [h1, h2]
  simp only [Option.map_some, Option.getD_some]
  rw [← Array.all_toList, List.all_map, List.all_filter]
  congr 1
  funext e
  simp only [Function.comp]
  have h3 : arr.getD e.on false = listed.contains e.on := by
    by_cases he : e.on < ops.size
    · rw [← hl _ he, Array.getD_eq_getD_getElem?, Array.getD_eq_getD_getElem?, Array.getElem?_eq_getElem (by omega)]
      rfl
    · rw [Array.getD_eq_getD_getElem?, Array.getElem?_eq_none (by omega)]
      simp only [Option.getD_none]
      symm
      rw [Bool.eq_false_iff]
      intro hc
      exact he (ho _ (by simpa using hc))
  rw [h3]
theorem wpAnyT_of_anyV {ops : Array Oper} {Q : St → Prop} : ∀ (f : Nat) (arr : Array Bool) (listed : List Nat) (x : St), arr.size = ops.size → (∀ i, i < ops.size → arr.getD i true = listed.contains i) →
    (∀ i ∈ listed, i < ops.size) → anyV P (ops.toList.map (cins P n ops)) (depsOf ops) Q f listed x → wpAnyT P n ops Q f arr x
  | 0, arr, listed, x, hs, hl, ho, h => ⟨by rw [readyV_eq hs hl ho]; exact h.1, h.2⟩
  | f + 1, arr, listed, x, hs, hl, ho, h => by
    have hr := readyV_eq hs hl ho
    unfold anyV at h
    refine ⟨fun h0 => ?_, fun i hi => ?_⟩
    · rw [hr] at h0
      rw [h0] at h
      exact h
    · rw [hr] at hi
      have hlt : i < ops.size := by
        have := (List.mem_filter.1 hi).1
        simpa [depsOf] using this
      have hall : allV P (ops.toList.map (cins P n ops)) (anyV P (ops.toList.map (cins P n ops)) (depsOf ops) Q f) listed x (readyV (depsOf ops) listed) := by
        cases hrr : readyV (depsOf ops) listed with
        | nil => exact trivial
        | cons j js => rw [hrr] at h; exact h
      obtain ⟨ins, h1, h2⟩ := allV_mem hall i hi
      have h3 : ops[i]? = some ops[i] := Array.getElem?_eq_getElem hlt
      have h4 : ins = cins P n ops ops[i] := by simpa [hlt] using h1.symm
      unfold Tn
      simp only [h3]
      rw [← h4]
      refine h2.mono fun x' hx' => wpAnyT_of_anyV f _ (i :: listed) x' (by simpa using hs) (fun j hj => ?_) (fun j hj => ?_) hx'
      · by_cases e : j = i
        · subst e
          rw [Array.getD_eq_getD_getElem?, Array.getElem?_setIfInBounds_self_of_lt (by omega)]
          simp
        · rw [Array.getD_eq_getD_getElem?, Array.getElem?_setIfInBounds_ne (fun e' => e e'.symm), ← Array.getD_eq_getD_getElem?, hl j hj]
          simp [e]
      · rcases List.mem_cons.1 hj with rfl | hj
        · exact hlt
        · exact ho j hj
theorem Runs.regA (hm : P.follows .mixedOrders = true) {l : List VIns} {deps : List (List Nat)} (h : anyV P l deps (fun x => Runs P n k x Q) l.length [] st) : Runs P n (.code (.regA l deps) :: k) st Q := by
  intro F hn kt hk a w hs
  obtain ⟨z, kt', rfl, hy, hk'⟩ := kt_cons hk
  obtain ⟨c0, rfl, hcc⟩ := it_code hy
  have hc0 : ∃ id ops, c0 = .region id ops true ∧ ops.toList.map (cins P n ops) = l ∧ depsOf ops = deps := by
    cases c0 <;> simp only [ccode, reduceCtorEq] at hcc
    rename_i id ops draw
    cases draw
    · simp at hcc
    · simp only [Bool.true_and] at hcc
      split at hcc
      · cases hcc
      split at hcc
      · simp only [VCode.regA.injEq] at hcc
        exact ⟨id, ops, rfl, hcc.1, hcc.2⟩
      · simp at hcc
  obtain ⟨id, ops, rfl, rfl, rfl⟩ := hc0
  have hs' : SatF F st a { w with drawn := w.drawn + 1 } := by
    obtain ⟨μ, hs⟩ := hs
    have hk : Keeps (Owned μ st.σ) (Owned μ st.σ) w { w with drawn := w.drawn + 1 } := fun _ _ h => ⟨h, rfl⟩
    refine ⟨μ, ⟨⟨hs.sat.size, hs.sat.os, hs.sat.tape, hs.sat.output, hs.sat.same, hs.sat.fin, hs.sat.inj, fun id o ho => ?_, hs.sat.fresh, hs.sat.glob⟩, hs.le, hs.size, hs.book.keep hk, fun i hi => ?_⟩⟩
    · exact (hs.sat.obj id o ho).mono (MuLe.refl μ) hk (Nat.le_refl _) (fun _ _ _ _ => rfl)
    · exact Rep.mono (MuLe.refl μ) hk (Nat.le_refl _) _ _ (hs.slot i hi)
  refine wpIn_region_any hm (wpAny_of_T (Q := fun x => Runs P n k x Q) hn (fun x a w hs h => h F hn kt' hk' a w hs) _ _ _ _ _ hs' ?_)
  have := wpAnyT_of_anyV (P := P) (n := n) (Q := fun x => Runs P n k x Q) (ops := ops) ops.size (Array.replicate ops.size false) [] st (by simp) (fun i hi => by
    rw [Array.getD_eq_getD_getElem?, Array.getElem?_replicate, if_pos hi]; simp) (by simp) (by simpa using h)
  exact this
end Go.Vc
namespace Go.Vc
theorem BB : (((((((type_of% @s_r_nil) ∧ (type_of% @Ret_one)) ∧ ((type_of% @Ret_two) ∧ (type_of% @Ret_three))) ∧ (((type_of% @Ret_none) ∧ (type_of% @Ret_cell_one)) ∧ ((type_of% @Ret_cell_two) ∧ (type_of% @onSome_some)))) ∧ ((((type_of% @s_r_stop) ∧ (type_of% @s_r_inBlock)) ∧ ((type_of% @s_r_ops_nil) ∧ (type_of% @s_r_skip))) ∧ (((type_of% @s_r_seq) ∧ (type_of% @s_r_block)) ∧ ((type_of% @s_r_exit) ∧ (type_of% @exR_some))))) ∧ (((((type_of% @s_r_ret) ∧ (type_of% @s_r_loop)) ∧ ((type_of% @s_r_rangeF) ∧ (type_of% @s_r_reg))) ∧ (((type_of% @s_r_dreg) ∧ (type_of% @s_r_regL)) ∧ ((type_of% @s_d_nil) ∧ (type_of% @s_r_cond)))) ∧ ((((type_of% @cR_t) ∧ (type_of% @cR_f)) ∧ ((type_of% @cR_dec) ∧ (type_of% @s_r_ins))) ∧ (((type_of% @insR_0) ∧ (type_of% @insR_1)) ∧ ((type_of% @insR_2) ∧ ((type_of% @insR_3) ∧ (type_of% @insR_4))))))) ∧ ((((((type_of% @callR_some) ∧ (type_of% @callR_none)) ∧ ((type_of% @callV_eq) ∧ (type_of% @callD_some))) ∧ (((type_of% @callD_none) ∧ (type_of% @contR_some)) ∧ ((type_of% @storeR_some) ∧ (type_of% @s_d_ins)))) ∧ ((((type_of% @insD_0) ∧ (type_of% @insD_1)) ∧ ((type_of% @insD_2) ∧ (type_of% @insD_3))) ∧ (((type_of% @contD_some) ∧ (type_of% @storeD_some)) ∧ ((type_of% @s_r_gins) ∧ ((type_of% @gR_tup) ∧ (type_of% @gR_tt)))))) ∧ (((((type_of% @gR_ff) ∧ (type_of% @gR_tf)) ∧ ((type_of% @gR_ft) ∧ (type_of% @gR_dec_t))) ∧ (((type_of% @gR_dec_f) ∧ (type_of% @s_d_gins)) ∧ ((type_of% @gD_tup) ∧ (type_of% @gD_tt)))) ∧ ((((type_of% @gD_ff) ∧ (type_of% @gD_tf)) ∧ ((type_of% @gD_ft) ∧ (type_of% @gD_dec_t))) ∧ (((type_of% @gD_dec_f) ∧ (type_of% @putO_nothing)) ∧ ((type_of% @putO_lo) ∧ ((type_of% @putO_hi) ∧ (type_of% @mix_get)))))))) ∧ (((((((type_of% @putO_some) ∧ (type_of% @putO_none)) ∧ ((type_of% @lit_t) ∧ (type_of% @lit_c))) ∧ (((type_of% @ev_t) ∧ (type_of% @ev_c)) ∧ ((type_of% @binV_int) ∧ (type_of% @binV_str)))) ∧ ((((type_of% @binPre_int) ∧ (type_of% @binPre_str)) ∧ ((type_of% @lenV_own) ∧ (type_of% @lenV_sl))) ∧ (((type_of% @lenV_nils) ∧ (type_of% @lenV_str)) ∧ ((type_of% @idxAV_own) ∧ (type_of% @loadV_ptr))))) ∧ (((((type_of% @loadV_rp_agg) ∧ (type_of% @loadV_rp_int)) ∧ ((type_of% @upd_same) ∧ (type_of% @upd_upd))) ∧ (((type_of% @true_implies) ∧ (type_of% @false_implies)) ∧ ((type_of% @implies_true.{0}) ∧ (type_of% @keepS_eq)))) ∧ ((((type_of% @List.getD_cons_zero.{0}) ∧ (type_of% @List.getD_cons_succ.{0})) ∧ ((type_of% @List.getD_nil.{0}) ∧ (type_of% @List.map_cons.{0, 0}))) ∧ (((type_of% @List.map_nil.{0, 0}) ∧ (type_of% @List.length_cons.{0})) ∧ ((type_of% @List.length_nil.{0}) ∧ ((type_of% @List.drop_succ_cons.{0}) ∧ (type_of% @List.drop_zero.{0}))))))) ∧ ((((((type_of% @List.take_succ_cons.{0}) ∧ (type_of% @List.take_zero.{0})) ∧ ((type_of% @List.set_cons_zero.{0}) ∧ (type_of% @List.set_cons_succ.{0}))) ∧ (((type_of% @List.append_nil.{0}) ∧ (type_of% @List.nil_append.{0})) ∧ ((type_of% @List.cons_append.{0}) ∧ (type_of% @List.all_cons.{0})))) ∧ ((((type_of% @List.all_nil.{0}) ∧ (type_of% @List.getElem?_cons_zero.{0})) ∧ ((type_of% @List.getElem?_cons_succ.{0}) ∧ (type_of% @List.contains_cons.{0}))) ∧ (((type_of% @List.contains_nil.{0}) ∧ (type_of% @Option.isSome_some.{0})) ∧ ((type_of% @Option.map_some.{0, 0}) ∧ ((type_of% @Option.map_none.{0, 0}) ∧ (type_of% @true_and)))))) ∧ (((((type_of% @and_true) ∧ (type_of% @and_self)) ∧ ((type_of% @Nat.zero_add) ∧ (type_of% @Nat.add_zero))) ∧ (((type_of% @Bool.not_true) ∧ (type_of% @Bool.not_false)) ∧ ((type_of% @Bool.false_eq_true) ∧ (type_of% @Bool.or_true)))) ∧ ((((type_of% @Bool.true_or) ∧ (type_of% @Bool.or_false)) ∧ ((type_of% @Bool.false_or) ∧ (type_of% @Bool.true_and))) ∧ (((type_of% @Bool.and_true) ∧ (type_of% @Bool.and_self)) ∧ ((type_of% @decide_true) ∧ ((type_of% @decide_false) ∧ (type_of% @decide_eq_true_eq)))))))) :=
  ⟨⟨⟨⟨⟨⟨⟨@s_r_nil, @Ret_one⟩, ⟨@Ret_two, @Ret_three⟩⟩, ⟨⟨@Ret_none, @Ret_cell_one⟩, ⟨@Ret_cell_two, @onSome_some⟩⟩⟩, ⟨⟨⟨@s_r_stop, @s_r_inBlock⟩, ⟨@s_r_ops_nil, @s_r_skip⟩⟩, ⟨⟨@s_r_seq, @s_r_block⟩, ⟨@s_r_exit, @exR_some⟩⟩⟩⟩, ⟨⟨⟨⟨@s_r_ret, @s_r_loop⟩, ⟨@s_r_rangeF, @s_r_reg⟩⟩, ⟨⟨@s_r_dreg, @s_r_regL⟩, ⟨@s_d_nil, @s_r_cond⟩⟩⟩, ⟨⟨⟨@cR_t, @cR_f⟩, ⟨@cR_dec, @s_r_ins⟩⟩, ⟨⟨@insR_0, @insR_1⟩, ⟨@insR_2, ⟨@insR_3, @insR_4⟩⟩⟩⟩⟩⟩, ⟨⟨⟨⟨⟨@callR_some, @callR_none⟩, ⟨@callV_eq, @callD_some⟩⟩, ⟨⟨@callD_none, @contR_some⟩, ⟨@storeR_some, @s_d_ins⟩⟩⟩, ⟨⟨⟨@insD_0, @insD_1⟩, ⟨@insD_2, @insD_3⟩⟩, ⟨⟨@contD_some, @storeD_some⟩, ⟨@s_r_gins, ⟨@gR_tup, @gR_tt⟩⟩⟩⟩⟩, ⟨⟨⟨⟨@gR_ff, @gR_tf⟩, ⟨@gR_ft, @gR_dec_t⟩⟩, ⟨⟨@gR_dec_f, @s_d_gins⟩, ⟨@gD_tup, @gD_tt⟩⟩⟩, ⟨⟨⟨@gD_ff, @gD_tf⟩, ⟨@gD_ft, @gD_dec_t⟩⟩, ⟨⟨@gD_dec_f, @putO_nothing⟩, ⟨@putO_lo, ⟨@putO_hi, @mix_get⟩⟩⟩⟩⟩⟩⟩, ⟨⟨⟨⟨⟨⟨@putO_some, @putO_none⟩, ⟨@lit_t, @lit_c⟩⟩, ⟨⟨@ev_t, @ev_c⟩, ⟨@binV_int, @binV_str⟩⟩⟩, ⟨⟨⟨@binPre_int, @binPre_str⟩, ⟨@lenV_own, @lenV_sl⟩⟩, ⟨⟨@lenV_nils, @lenV_str⟩, ⟨@idxAV_own, @loadV_ptr⟩⟩⟩⟩, ⟨⟨⟨⟨@loadV_rp_agg, @loadV_rp_int⟩, ⟨@upd_same, @upd_upd⟩⟩, ⟨⟨@true_implies, @false_implies⟩, ⟨@implies_true.{0}, @keepS_eq⟩⟩⟩, ⟨⟨⟨@List.getD_cons_zero.{0}, @List.getD_cons_succ.{0}⟩, ⟨@List.getD_nil.{0}, @List.map_cons.{0, 0}⟩⟩, ⟨⟨@List.map_nil.{0, 0}, @List.length_cons.{0}⟩, ⟨@List.length_nil.{0}, ⟨@List.drop_succ_cons.{0}, @List.drop_zero.{0}⟩⟩⟩⟩⟩⟩, ⟨⟨⟨⟨⟨@List.take_succ_cons.{0}, @List.take_zero.{0}⟩, ⟨@List.set_cons_zero.{0}, @List.set_cons_succ.{0}⟩⟩, ⟨⟨@List.append_nil.{0}, @List.nil_append.{0}⟩, ⟨@List.cons_append.{0}, @List.all_cons.{0}⟩⟩⟩, ⟨⟨⟨@List.all_nil.{0}, @List.getElem?_cons_zero.{0}⟩, ⟨@List.getElem?_cons_succ.{0}, @List.contains_cons.{0}⟩⟩, ⟨⟨@List.contains_nil.{0}, @Option.isSome_some.{0}⟩, ⟨@Option.map_some.{0, 0}, ⟨@Option.map_none.{0, 0}, @true_and⟩⟩⟩⟩⟩, ⟨⟨⟨⟨@and_true, @and_self⟩, ⟨@Nat.zero_add, @Nat.add_zero⟩⟩, ⟨⟨@Bool.not_true, @Bool.not_false⟩, ⟨@Bool.false_eq_true, @Bool.or_true⟩⟩⟩, ⟨⟨⟨@Bool.true_or, @Bool.or_false⟩, ⟨@Bool.false_or, @Bool.true_and⟩⟩, ⟨⟨@Bool.and_true, @Bool.and_self⟩, ⟨@decide_true, ⟨@decide_false, @decide_eq_true_eq⟩⟩⟩⟩⟩⟩⟩⟩
end Go.Vc
namespace Go.Vc
theorem SubStore.delK {σ0 σ : Store} {e : Nat} (h : SubStore σ0 σ) (he : σ0 e = Option.none) : SubStore σ0 (del σ e) := fun i x hx => by
  have hne : i ≠ e := fun e' => by rw [e', he] at hx; cases hx
  rw [del_ne hne]
  exact h i x hx
theorem Wk.nils {σ σ' : Store} (sz : Nat) : Wk σ σ' .nils (.sl sz []) := by
  intro μ w0 w ow0 x hs hr
  simp only [Rep] at hr ⊢
  exact ⟨none, 0, by simpa using hr, by simp, .inl trivial⟩
def OutV (K σ : Store) (e sz : Nat) (v : V) (rows : List V) : Prop := (v = .nils ∧ rows = []) ∨ ∃ id, v = .own id 0 rows.length ∧ σ id = some ⟨e, sz, rows⟩ ∧ K id = none
theorem OutV.wk {K σ : Store} {e sz : Nat} {v : V} {rows : List V} (h : OutV K σ e sz v rows) {K' : Store} (hK : SubStore K' K) (hs : SubStore K' σ) : Wk σ K' v (.sl sz rows) := by
  rcases h with ⟨rfl, rfl⟩ | ⟨id, rfl, ho, hk⟩
  · exact Wk.nils sz
  · have := Wk.own hs ho (hK.none hk) (off := 0) (len := rows.length) (by simp)
    rw [List.drop_zero, List.take_length] at this
    exact this
theorem effR_put {P : Program} {n : Nat} {Q : St → Prop} {k : List It} {O : Orc P} {f : Nat} {d : Option Nat} {l : List VIns} {v : Nat → V} {ob : Ob} {s : Nat → V} {σ : Store} {e : Option Nat}
    (h : ∀ id σ', SubStore (delO σ e) σ' → σ' id = some ob → σ id = none → step P O n f (.r (.ops l :: k)) ⟨putO s d (v id), σ'⟩ Q) :
    effR P O n f l k d ⟨s, σ⟩ Q (some fun id => (v id, Vc.upd (delO σ e) id ob)) := by
  rw [effR_some]
  refine fun id hid => h id _ ((SubStore.refl _).upd ?_) upd_same hid
  cases e with
  | none => exact hid
  | some e =>
    simp only [delO,del]
    split
    · rfl
    · exact hid
theorem OutV.dst {K σ : Store} {e sz : Nat} {v : V} {rows : List V} (h : OutV K σ e sz v rows) {σ1 : Store} (hs : SubStore σ σ1) :
    ∃ idA, dstRows σ1 e sz v = some (rows, idA) ∧ ∀ K' : Store, SubStore K' K → ∀ σ2, SubStore K' σ2 → SubStore K' (delO σ2 idA) := by
  rcases h with ⟨rfl, rfl⟩ | ⟨id, rfl, ho, hk⟩
  · exact ⟨none, rfl, fun _ _ _ h => h⟩
  · refine ⟨some id, ?_, fun K' hK σ2 h => h.delK (hK.none hk)⟩
    simp only [dstRows,hs _ _ ho]
    rw [if_pos ⟨trivial, trivial, trivial, Nat.le_refl _⟩, List.take_length]
theorem OutV.start {K σ : Store} {e sz : Nat} : OutV K σ e sz .nils [] := .inl ⟨rfl, rfl⟩
theorem OutV.new {K σ : Store} {e sz id : Nat} {rows : List V} {n : Nat} (hn : n = rows.length) (h : σ id = some ⟨e, sz, rows⟩) (hk : K id = none) : OutV K σ e sz (.own id 0 n) rows := by
  subst hn; exact .inr ⟨id, rfl, h, hk⟩
theorem OutV.len {K σ : Store} {e sz : Nat} {v : V} {rows : List V} (h : OutV K σ e sz v rows) : lenV false v = some (.int .i64 rows.length) := by
  rcases h with ⟨rfl, rfl⟩ | ⟨id, rfl, ho, hk⟩ <;> rfl
theorem OutV.mono {K σ σ' : Store} {e sz : Nat} {v : V} {rows : List V} (h : OutV K σ e sz v rows) (hs : SubStore σ σ') : OutV K σ' e sz v rows := by
  rcases h with h | ⟨id, h1, h2, h3⟩
  · exact .inl h
  · exact .inr ⟨id, h1, hs _ _ h2, h3⟩
theorem srcOne {σ : Store} {id e sz : Nat} {r : V} (h : σ id = some ⟨e, sz, [r]⟩) : srcRows σ sz (.own id 0 1) = some [r] := by
  simp [srcRows, h]
theorem Wk.ptr {σ σ' : Store} (h : SubStore σ' σ) {id : Nat} {e sz : Nat} {r : V} (ho : σ id = some ⟨e, sz, [r]⟩) (hid : σ' id = none) : Wk σ σ' (.ptr id 0 0) (.rp r) := by
  intro μ w0 w ow0 x hs hr
  simp only [Rep] at hr ⊢
  have hob := hs.obj id _ ho
  split at hr
  · rename_i b sz' cap hb
    obtain ⟨rfl, hz⟩ := hr
    rw [hb] at hob
    have hlt : b < w.heap.size := Owned.lt hs ⟨id, _, _, _, ho, hb⟩
    obtain ⟨g1, g2, g3, g4, g5⟩ := hob.rows hz
    refine ⟨b, _, rfl, hlt, .inr ?_, ?_⟩
    · rintro ⟨id', ob', sz'', cap'', e1, e2⟩
      have := hs.inj id' id ob' _ _ _ _ _ _ (h _ _ e1) ho e2 hb
      rw [this, hid] at e1
      cases e1
    · simp only [RepRows] at g5
      have := RepRows.mono (MuLe.refl μ) (Keeps.sub w h) (Nat.le_refl _) [r] b 0 sz' rfl (by simp only [RepRows]; exact ⟨g5.1, g5.2.1, trivial⟩)
      simp only [RepRows] at this
      simpa using this.2.1
  · exact hr.elim
theorem Wk.fn {σ σ' : Store} {f : FuncId} {vs vs' : List V} (h : WkL σ σ' vs vs') : Wk σ σ' (.fn f vs) (.fn f vs') := by
  intro μ w0 w ow0 x hs hr
  simp only [Rep] at hr ⊢
  obtain ⟨vals, rfl, h1⟩ := hr
  exact ⟨vals, rfl, WkL.all hs h h1⟩
theorem V.cells_agg (vs : List V) : V.cells (.agg vs) = vs := rfl
theorem V.cells_int (k : IntKind) (i : Int) : V.cells (.int k i) = [.int k i] := rfl
theorem V.cells_nils : V.cells .nils = [.nils] := rfl
theorem V.cells_own (a b c : Nat) : V.cells (.own a b c) = [.own a b c] := rfl
theorem V.cells_sl (a : Nat) (b : List V) : V.cells (.sl a b) = [.sl a b] := rfl
theorem V.cells_str (a : List UInt8) : V.cells (.str a) = [.str a] := rfl
theorem V.cells_bool (a : Bool) : V.cells (.bool a) = [.bool a] := rfl
theorem V.cells_fn (a : FuncId) (b : List V) : V.cells (.fn a b) = [.fn a b] := rfl
theorem V.cells_ptr (a b c : Nat) : V.cells (.ptr a b c) = [.ptr a b c] := rfl
theorem V.cells_rp (a : V) : V.cells (.rp a) = [.rp a] := rfl
theorem V.stays_agg (vs : List V) : V.stays (.agg vs) = true := rfl
theorem V.stays_int (k : IntKind) (i : Int) : V.stays (.int k i) = true := rfl
theorem V.stays_nils : V.stays .nils = true := rfl
theorem V.stays_own (a b c : Nat) : V.stays (.own a b c) = true := rfl
theorem V.stays_sl (a : Nat) (b : List V) : V.stays (.sl a b) = true := rfl
theorem V.stays_str (a : List UInt8) : V.stays (.str a) = true := rfl
theorem V.stays_bool (a : Bool) : V.stays (.bool a) = true := rfl
theorem V.stays_fn (a : FuncId) (b : List V) : V.stays (.fn a b) = true := rfl
theorem V.stays_ptr (a b c : Nat) : V.stays (.ptr a b c) = true := rfl
theorem V.stays_rp (a : V) : V.stays (.rp a) = true := rfl
end Go.Vc
