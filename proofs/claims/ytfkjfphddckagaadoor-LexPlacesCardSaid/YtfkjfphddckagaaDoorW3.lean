/- Part 3 of the library of this proof. -/
import Derived.Test.YtfkjfphddckagaaDoorW2
import Derived.WalkKit
import Derived.ProofKit
import Derived.Deep.Slices
import Derived.ChangeArms
import Derived.WideKeyArgs
import Derived.Carry
import Derived.SizedLaws
import Derived.Laws.RangeString
import Derived.Laws.Runes
import Derived.Test.YtfkjfphddckagaaDoorProg
import Derived.KernelRfl
import Derived.Calls
set_option linter.all false
namespace Go.Vc
open Go.ChangeShapes Go.WideShapes Go.RowKit Go.Deep
def contig (P : Program) (total : Nat) : Nat → List Field → Bool
  | off, [] => off == total
  | off, f :: fs => f.offset == off && contig P total (off + P.cellsOf f.type) fs
/-- a type that is read here: numbers, bools, strings, slices and structs of these -/
def okTy (P : Program) : Nat → TypeId → Bool
  | 0, _ => false
  | n + 1, t => match P.underlying t with
    | some .bool | some (.int _) | some .string => true
    | some (.slice e) => okTy P n e && P.cellsOf e != 0
    | some (.struct fs) => contig P (P.cellsOf t) 0 fs.toList && fs.toList.all fun f => okTy P n f.type
    | _ => false
def rowOf (agg : Bool) (cs : List V) : V := if agg then .agg cs else cs.getD 0 .undef
def ShpFs (S : TypeId → List V → Prop) : List Field → List V → Prop
  | [], vs => vs = []
  | f :: fs, vs => ∃ a b, vs = a ++ b ∧ S f.type a ∧ ShpFs S fs b
/-- cells of a type -/
def ShpC (P : Program) : Nat → TypeId → List V → Prop
  | 0, _, _ => False
  | n + 1, t, vs => match P.underlying t with
    | some .bool => ∃ b, vs = [.bool b]
    | some (.int k) => ∃ m, vs = [.int k m] ∧ (Lit.int k m).wf = true
    | some .string => ∃ s : List UInt8, vs = [.str s] ∧ s.length ≤ reachBytes
    | some (.slice e) => ∃ rows, vs = [.sl (P.cellsOf e) rows] ∧ rows.length * P.bytesOf e ≤ reachBytes ∧ ∀ r ∈ rows, ∃ cs, ShpC P n e cs ∧ r = rowOf (aggT P e) cs
    | some (.struct fs) => ShpFs (ShpC P n) fs.toList vs
    | _ => False
theorem list_of {α : Type} {Pr : Nat → α → Prop} : ∀ n, (∀ i, i < n → ∃ r, Pr i r) → ∃ rows : List α, rows.length = n ∧ ∀ i r, rows[i]? = some r → Pr i r
  | 0, _ => ⟨[], rfl, fun i r h => by simp at h⟩
  | n + 1, h => by
    obtain ⟨rows, h1, h2⟩ := list_of n fun i hi => h i (by omega)
    obtain ⟨r, hr⟩ := h n (by omega)
    refine ⟨rows ++ [r], by simp [h1], fun i x hx => ?_⟩
    rw [List.getElem?_append] at hx
    split at hx
    · exact h2 i x hx
    · rename_i hi
      have : i - rows.length = 0 := by
        rcases Nat.eq_zero_or_pos (i - rows.length) with h0 | h0
        · exact h0
        · rw [List.getElem?_eq_none (by simp; omega)] at hx; cases hx
      rw [this] at hx
      simp at hx
      subst hx
      have : i = n := by omega
      subst this
      exact hr
theorem repRows_of {μ : Mu} {ow : Nat → Prop} {w : World} {b off sz : Nat} : ∀ (rows : List V) (k : Nat), (∀ i r, rows[i]? = some r → r.cells.length = sz ∧ RepCells μ ow w r.cells b (off + (k + i) * sz)) → RepRows μ ow w rows b (off + k * sz) sz
  | [], _, _ => by simp [RepRows]
  | r :: rs, k, h => by
    have h0 := h 0 r rfl
    simp only [RepRows]
    refine ⟨h0.1, by rw [RepRow_eq]; simpa using h0.2, ?_⟩
    have e : off + k * sz + sz = off + (k + 1) * sz := by rw [Nat.add_mul]; omega
    rw [e]
    refine repRows_of rs (k + 1) fun i x hx => ?_
    have := h (i + 1) x (by simpa using hx)
    rw [show k + 1 + i = k + (i + 1) by omega]
    exact this
section
variable {H : Type} {enc : TypeId × Value → H} {P : Program} {w : World} {base : Nat} {spare : Nat → Bool} {held : Bool} {μ : Mu} {ow : Nat → Prop}
def RepShp (P : Program) (μ : Mu) (ow : Nat → Prop) (w : World) (N : Nat) (t : TypeId) (cs : List Value) : Prop :=
  ∃ vs, ShpC P N t vs ∧ RepAll μ ow w vs cs ∧ ∀ u ∈ cs, u.oneCell' = true
theorem struct_rep {S : TypeId → List V → Prop} {cs : List Value} : ∀ (fs : List Field) (off : Nat), contig P cs.length off fs = true →
    (∀ f ∈ fs, ∃ vs, S f.type vs ∧ RepAll μ ow w vs ((cs.drop f.offset).take (P.cellsOf f.type)) ∧ ∀ u ∈ (cs.drop f.offset).take (P.cellsOf f.type), u.oneCell' = true) →
    ∃ vs, ShpFs S fs vs ∧ RepAll μ ow w vs (cs.drop off) ∧ ∀ u ∈ cs.drop off, u.oneCell' = true
  | [], off, hc, _ => by
    simp only [contig, beq_iff_eq] at hc
    refine ⟨[], rfl, ?_, ?_⟩
    · rw [List.drop_eq_nil_of_le (by omega)]; simp [RepAll]
    · rw [List.drop_eq_nil_of_le (by omega)]; simp
  | f :: fs, off, hc, h => by
    simp only [contig, Bool.and_eq_true, beq_iff_eq] at hc
    obtain ⟨a, h1, h2, h3⟩ := h f (by simp)
    obtain ⟨b, h4, h5, h6⟩ := struct_rep fs (off + P.cellsOf f.type) hc.2 fun g hg => h g (by simp [hg])
    rw [hc.1] at h2 h3
    have e : cs.drop off = (cs.drop off).take (P.cellsOf f.type) ++ cs.drop (off + P.cellsOf f.type) := by
      rw [← List.drop_drop, List.take_append_drop]
    refine ⟨a ++ b, ⟨a, b, rfl, h1, h4⟩, ?_, ?_⟩
    · rw [e]; exact h2.append h5
    · rw [e]; intro u hu
      rcases List.mem_append.1 hu with hu | hu
      · exact h3 u hu
      · exact h6 u hu
theorem one_rep {v : V} {x : Value} (h : Rep μ ow w v x) : RepAll μ ow w [v] [x] := by simp only [RepAll]; exact ⟨x, [], rfl, h, rfl⟩
theorem aggT_struct {t : TypeId} {fs : Array Field} (h : P.underlying t = some (.struct fs)) : aggT P t = true := by simp [aggT, h]
theorem weightsAll_mem {e : TypeId} {d : DataW H} : ∀ {l : List (DataW H)}, d ∈ l → ∀ n ∈ d.weights P e, n ∈ DataW.weightsAll P e l
  | [], h, _, _ => by simp at h
  | x :: l, h, n, hn => by
    simp only [DataW.weightsAll, List.mem_append]
    rcases List.mem_cons.1 h with rfl | h
    · exact .inl hn
    · exact .inr (weightsAll_mem h n hn)
/-- What reads as data is held. -/
theorem rep_of_trod (hno : ∀ b, ¬ ow b) : ∀ (N : Nat) (fuel : Nat) (t : TypeId) (cs : List Value) (x : DataW H × List MemPlace), okTy P N t = true → (∀ n ∈ x.1.weights P t, n ≤ reachBytes) → DataW.trod enc P w base spare held fuel t cs = some x →
    RepShp P μ ow w N t cs
  | 0, _, _, _, _, h, _, _ => by simp [okTy] at h
  | N + 1, fuel, t, cs, x, hok, hwt, hx => by
    have hok' := hok
    unfold okTy at hok
    unfold RepShp
    simp only [ShpC]
    split at hok
    · rename_i ht
      obtain ⟨b, rfl, _⟩ := DataW.trod_bool ht hx
      exact ⟨[.bool b], ⟨b, rfl⟩, one_rep (by simp [Rep]), by simp [Value.oneCell']⟩
    · rename_i k ht
      obtain ⟨m, rfl, _, hw⟩ := DataW.trod_int ht hx
      exact ⟨[.int k m], ⟨m, rfl, hw⟩, one_rep (by simp [Rep]), by simp [Value.oneCell']⟩
    · rename_i ht
      obtain ⟨s, rfl, rfl, hw⟩ := DataW.trod_string ht hx
      exact ⟨[.str s.data.toList], ⟨_, rfl, hwt _ (by simp [DataW.weights])⟩, one_rep (by simp [Rep]), by simp [Value.oneCell']⟩
    · rename_i e ht
      simp only [Bool.and_eq_true, bne_iff_ne, ne_eq] at hok
      rcases open_slice ht hx with ⟨rfl, _⟩ | ⟨a, len, cap, m, n, D, Pl, rfl, hb, hl, hm, hmm, rfl, hi⟩
      · exact ⟨[.sl (P.cellsOf e) []], ⟨[], rfl, by simp, by simp⟩, one_rep (by simp only [Rep]; exact ⟨none, 0, rfl, by simp, .inl trivial⟩), by simp [Value.oneCell']⟩
      · have hlm : len ≤ m := by rw [hmm]; split <;> omega
        simp only [DataW.weights, ht] at hwt
        have hlen : len * P.bytesOf e ≤ reachBytes := by
          have := hwt _ (List.mem_cons_self ..)
          simp only [List.length_map, List.length_range] at this
          exact Nat.le_trans (Nat.mul_le_mul_right _ (by omega)) this
        have hel : ∀ i, i < len → ∃ r : V, (∃ cs, ShpC P N e cs ∧ r = rowOf (aggT P e) cs) ∧ r.cells.length = P.cellsOf e ∧ ∃ cs', RepAll μ ow w r.cells cs' ∧ (∀ u ∈ cs', u.oneCell' = true) ∧ cs'.length = P.cellsOf e ∧
            ∀ j, j < P.cellsOf e → w.cell? ((a.add (i * P.cellsOf e)).add j) = cs'[j]? := by
          intro i hi'
          obtain ⟨cs', h1, h2⟩ := hi i (by omega)
          obtain ⟨_, hcl, hat⟩ := World.cells?_some h1
          obtain ⟨vs, h3, h4, h5⟩ := rep_of_trod hno N n e cs' _ hok.1 (fun q hq => hwt q (List.mem_cons_of_mem _ (List.mem_append_left _ (weightsAll_mem (List.mem_map.2 ⟨i, by simpa using hi', rfl⟩) q hq)))) h2
          have hvl : vs.length = P.cellsOf e := by rw [← hcl, h4.length]
          have hcells : (rowOf (aggT P e) vs).cells = vs := by
            unfold rowOf
            split
            · rfl
            · rename_i hna
              cases N with
              | zero => simp [ShpC] at h3
              | succ N' =>
                unfold ShpC at h3
                split at h3
                · obtain ⟨b, rfl⟩ := h3; rfl
                · obtain ⟨b, rfl, _⟩ := h3; rfl
                · obtain ⟨b, rfl, _⟩ := h3; rfl
                · obtain ⟨b, rfl, _⟩ := h3; rfl
                · rename_i hs; exact absurd (aggT_struct hs) hna
                · exact h3.elim
          exact ⟨rowOf (aggT P e) vs, ⟨vs, h3, rfl⟩, by rw [hcells, hvl], cs', by rw [hcells]; exact h4, h5, hcl, hat⟩
        obtain ⟨rows, hr1, hr2⟩ := list_of len hel
        refine ⟨[.sl (P.cellsOf e) rows], ⟨rows, rfl, by rw [hr1]; exact hlen, fun r hr => ?_⟩, one_rep ?_, by simp [Value.oneCell']⟩
        · obtain ⟨i, hi'⟩ := List.getElem?_of_mem hr
          exact (hr2 i r hi').1
        · simp only [Rep]
          refine ⟨some a, cap, by rw [hr1], by omega, ?_⟩
          by_cases h0 : len = 0
          · left; exact List.eq_nil_of_length_eq_zero (by omega)
          · right
            have hfirst : ∃ r, rows[0]? = some r := ⟨rows[0]'(by omega), by simp⟩
            obtain ⟨r0, hr0⟩ := hfirst
            obtain ⟨_, _, cs0, _, _, hcl0, hat0⟩ := hr2 0 r0 hr0
            have hc0 := hat0 0 (by omega)
            rw [List.getElem?_eq_getElem (by omega)] at hc0
            have hspot : a.spot = none := by
              have := World.cell?_spot hc0
              simpa [Addr.add] using this
            obtain ⟨b, off, spot⟩ := a
            subst hspot
            refine ⟨b, off, rfl, hno b, by omega, ?_⟩
            have := repRows_of (μ := μ) (ow := ow) (w := w) (b := b) (off := off) (sz := P.cellsOf e) rows 0 fun i r hri => ?_
            · simpa using this
            · obtain ⟨_, h1, cs', h2, h3, h4, h5⟩ := hr2 i r hri
              refine ⟨h1, RepCells_of h2 h3 fun j u hu => ?_⟩
              have hj : j < P.cellsOf e := by rw [← h4]; exact (List.getElem?_eq_some_iff.1 hu).1
              have := h5 j hj
              rw [hu, add_plain, add_plain] at this
              rw [Nat.zero_add]
              exact this
    · rename_i fs ht
      simp only [Bool.and_eq_true] at hok
      obtain ⟨xs, n, _, rfl, hl, hxl, hf⟩ := DataW.trod_struct ht hx
      simp only [DataW.weights, ht] at hwt
      obtain ⟨vs, h1, h2, h3⟩ := struct_rep (μ := μ) (ow := ow) (w := w) (P := P) (S := ShpC P N) (cs := cs) fs.toList 0 (by rw [hl]; exact hok.1) fun f hfm => by
        obtain ⟨i, hi⟩ := List.getElem?_of_mem hfm
        have hi' : fs[i]? = some f := by simpa using hi
        have hlt : i < xs.length := by rw [hxl]; exact (Array.getElem?_eq_some_iff.1 hi').1
        have h1 := hf i f hi'
        rw [List.getElem?_eq_getElem hlt] at h1
        exact rep_of_trod hno N n f.type _ _ (List.all_eq_true.1 hok.2 f hfm) (fun q hq => hwt q (DataW.weights_mem_each (j := i) (t := f.type) (d := (xs[i]'hlt).1) (by simp [hi]) (by simp [hlt]) q hq)) h1
      exact ⟨vs, h1, by simpa using h2, by simpa using h3⟩
    · cases hok
/-- an argument -/
def argOf (P : Program) (t : TypeId) (vs : List V) : V := if aggT P t then .agg vs else vs.getD 0 .undef
theorem arg_rep (hno : ∀ b, ¬ ow b) {N : Nat} {t : TypeId} {v : Value} {d : DataW H} {p : List MemPlace} {r : Reach} {b0 : Nat} (hok : okTy P N t = true) (hwt : ∀ n ∈ d.weights P t, n ≤ reachBytes) (hval : Value.okWide P w r b0 t v) (h : DataW.Trod enc P w base spare held t v d p) :
    ∃ vs, ShpC P N t vs ∧ Rep μ ow w (argOf P t vs) v := by
  obtain ⟨fuel, hf⟩ := h
  obtain ⟨vs, h1, h2, h3⟩ := rep_of_trod (μ := μ) hno N fuel t _ _ hok hwt hf
  refine ⟨vs, h1, ?_⟩
  cases N with
  | zero => simp [ShpC] at h1
  | succ N' =>
    unfold ShpC at h1
    have hone : ∀ u : V, vs = [u] → v.cells = #[v] → aggT P t = false → Rep μ ow w (argOf P t vs) v := by
      rintro u rfl hc ha
      rw [hc] at h2
      simp only [RepAll] at h2
      obtain ⟨x, xs, h4, h5, h6⟩ := h2
      simp only [List.cons.injEq] at h4
      simp only [argOf, ha, Bool.false_eq_true, if_false]
      rw [h4.1]; exact h5
    split at h1
    · rename_i ht
      obtain ⟨b, rfl⟩ := h1
      obtain ⟨x, rfl⟩ := okWide_bool ht hval
      exact hone _ rfl rfl (by simp [aggT, ht])
    · rename_i ht
      obtain ⟨b, rfl, _⟩ := h1
      obtain ⟨x, rfl⟩ := okWide_int ht hval
      exact hone _ rfl rfl (by simp [aggT, ht])
    · rename_i ht
      obtain ⟨b, rfl, _⟩ := h1
      obtain ⟨x, rfl⟩ := okWide_string ht hval
      exact hone _ rfl rfl (by simp [aggT, ht])
    · rename_i ht
      obtain ⟨b, rfl, _⟩ := h1
      obtain ⟨x, y, z, rfl⟩ := okWide_slice ht hval
      exact hone _ rfl rfl (by simp [aggT, ht])
    · rename_i ht
      obtain ⟨cs, rfl, _⟩ := okWide_struct ht hval
      simp only [argOf, aggT_struct ht, if_true, Rep]
      exact ⟨cs.toList, by simp, by simpa [Value.cells] using h2, by simpa [Value.cells] using h3⟩
    · exact h1.elim
def ShpArgs (P : Program) (N : Nat) : List TypeId → List V → Prop
  | [], us => us = []
  | t :: ts, us => ∃ vs us', us = argOf P t vs :: us' ∧ ShpC P N t vs ∧ ShpArgs P N ts us'
theorem args_rep (hno : ∀ b, ¬ ow b) {N : Nat} {r : Reach} {b0 : Nat} : ∀ {ts : List TypeId} {vs : List Value} {ds : List (DataW H)} {p : List MemPlace}, (∀ t ∈ ts, okTy P N t = true) → (∀ n ∈ DataW.weightsEach P ts ds, n ≤ reachBytes) →
    (∀ (j : Nat) t v, ts[j]? = some t → vs[j]? = some v → Value.okWide P w r b0 t v) → DataW.TrodAll enc P w base spare held ts vs ds p → ∃ us, ShpArgs P N ts us ∧ RepAll μ ow w us vs
  | [], vs, ds, p, _, _, _, h => by
    cases vs <;> cases ds <;> simp [DataW.TrodAll] at h
    exact ⟨[], rfl, by simp [RepAll]⟩
  | t :: ts, vs, ds, p, hok, hwt, hval, h => by
    obtain ⟨v, vs', d, ds', p', q, rfl, rfl, rfl, h1, h2⟩ := trodAll_cons h
    simp only [DataW.weightsEach, List.mem_append] at hwt
    obtain ⟨cs, g1, g2⟩ := arg_rep (μ := μ) (b0 := b0) hno (hok t (by simp)) (fun q hq => hwt q (.inl hq)) (hval 0 t v rfl rfl) h1
    obtain ⟨us, g3, g4⟩ := args_rep (b0 := b0) hno (fun u hu => hok u (by simp [hu])) (fun q hq => hwt q (.inr hq)) (fun j u x hj hx => hval (j + 1) u x (by simpa using hj) (by simpa using hx)) h2
    exact ⟨_ :: us, ⟨cs, us, rfl, g1, g3⟩, by simp only [RepAll]; exact ⟨v, vs', rfl, g2, g4⟩⟩
theorem trodAll_stays (hl : laidOutB P = true) : ∀ {ts : List TypeId} {vs : List Value} {ds : List (DataW H)} {p : List MemPlace} {W W' : World} {sp : Nat → Bool}, (∀ t ∈ ts, P.readableRec t = true ∧ t < P.types.size) →
    DataW.TrodAll enc P W 0 (fun _ => true) true ts vs ds p → Below W.heap.size W W' → (∀ x ∈ p, x.block < W.heap.size) → (∀ x ∈ p, sp x.block = true) → DataW.TrodAll enc P W' 0 sp true ts vs ds p
  | [], vs, ds, p, W, W', sp, _, h, _, _, _ => by
    cases vs <;> cases ds <;> simp [DataW.TrodAll] at h ⊢
    exact h
  | t :: ts, vs, ds, p, W, W', sp, ht, h, hb, hlt, hsp => by
    obtain ⟨v, vs', d, ds', p', q, rfl, rfl, rfl, h1, h2⟩ := trodAll_cons h
    refine ⟨p', q, WideElems.Trod_stays hl (ht t (by simp)).1 (ht t (by simp)).2 h1 (fun x hx => hb.same (hlt x (by simp [hx]))) (fun x hx => hsp x (by simp [hx])), ?_, rfl⟩
    exact trodAll_stays hl (fun u hu => ht u (by simp [hu])) h2 hb (fun x hx => hlt x (by simp [hx])) (fun x hx => hsp x (by simp [hx]))
end
/-- The row's last step where the call froze something new. -/
theorem post_of_below {H : Type} {enc : TypeId × Value → H} {P : Program} {f : Func} {s : ChangeSpec} {apart fresh handsOn again : Bool} {W W' : World} {args : Array Value} {v : Value} {ds gs : List (DataW H)} {before pa pv : List MemPlace}
    (hW : DataW.Whole enc P f.params.toList s.vars apart W args.toList ds gs before)
    (hres : ∀ (b : Nat) (sp : Nat → Bool) (hd : Bool), DataW.TrodAll enc P W' b sp hd f.resultTypes.toList (v.resultList f.resultTypes.size) (s.fn H (ds ++ gs)).results [])
    (hargs : ∀ sp : Nat → Bool, (∀ p ∈ before, sp p.block = true) → DataW.TrodAll enc P W' 0 sp true f.params.toList args.toList (s.fn H (ds ++ gs)).args pa)
    (hvars : ∀ sp : Nat → Bool, (∀ p ∈ before, sp p.block = true) → DataW.TrodVars enc P W' sp s.vars (s.fn H (ds ++ gs)).vars pv)
    (hps : before = pa ++ pv) (hb : Below W.heap.size W W')
    (hok : ∀ (j : Nat) (t : TypeId) (r : Value), f.resultTypes[j]? = some t → (v.resultList f.resultTypes.size)[j]? = some r → Value.okWide P W' .any 0 t r) :
    s.post enc P f apart fresh handsOn again W args v W' := by
  have hlt : ∀ p ∈ before, p.block < W.heap.size := fun p hp => hW.lt p hp
  have hold : ∀ p ∈ before, (fun b => decide (b < W.heap.size)) p.block = true := fun p hp => by simpa using hlt p hp
  refine ⟨ds, gs, before, [], pa, pv, hW, hres _ _ _, hargs _ hold, hvars _ hold, World.keptBut_mono (fun p hp => ⟨hp, ?_⟩) (hb.frame (· ∈ before)), fun _ => ?_⟩
  · rw [hps, List.mem_append] at hp
    exact Or.inr hp
  · obtain ⟨_, _, _, _, _, hz, hn⟩ := hW
    refine ⟨hok, _, _, ([] ++ pa) ++ pv, ⟨[] ++ pa, pv, trodAll_append (hargs _ (fun _ _ => rfl)) (hres _ _ _), hvars _ (fun _ _ => rfl), rfl, ?_, ?_⟩, ?_⟩
    · intro b off hp
      have hin : MemPlace.cell b off ∈ before := by rw [hps]; simpa using hp
      rw [hb.frozen (hlt _ hin)]
      exact hz b off hin
    · intro ha
      have := hn ha
      rw [hps] at this
      simpa using this
    · intro p hp _
      rw [hps]
      simpa using hp
/-- A law's contract is enough: it answers true, whatever its arguments are. -/
theorem law_post {H : Type} {enc : TypeId × Value → H} {P : Program} {f : Func} {i : FuncId} {s : ChangeSpec} {N : Nat} (hfs : P.funcs[i]? = some f) (hl : laidOutB P = true)
    (hts : f.params.toList.all (fun t => okTy P N t && (P.readableRec t && decide (t < P.types.size))) = true) (hvars : s.vars = []) {tb : TypeId} (hres : f.resultTypes = #[tb]) (htb : P.underlying tb = some .bool)
    (hfn : ∀ ds, ds.length = f.params.size → s.fn H ds = ⟨[.lit (.bool true)], ds, []⟩)
    (hlaw : ∀ us, ShpArgs P N f.params.toList us → PFun P i us (.bool true))
    {apart fresh handsOn again : Bool} {W : World} {base : Nat} {args : Array Value} {ds gs : List (DataW H)} {before : List MemPlace}
    (hval : ∀ (j : Nat) t v, f.params[j]? = some t → args[j]? = some v → Value.okWide P W .any base t v)
    (hW : DataW.Whole enc P f.params.toList s.vars apart W args.toList ds gs before) (hvt : s.plain.varTypes P = [])
    (hsz : (DataW.weightsEach P (f.params.toList ++ s.plain.varTypes P) (ds ++ gs)).all (· ≤ reachBytes) = true) :
    Calls P i args W fun e W' => ∃ v, e = .returned v ∧ s.post enc P f apart fresh handsOn again W args v W' := by
  have hW' := hW
  obtain ⟨p, q, hA, hV, rfl, hfz, hnd⟩ := hW
  have hts' := List.all_eq_true.1 hts
  simp only [Bool.and_eq_true, decide_eq_true_eq] at hts'
  rw [hvars] at hV
  have hnoV : gs = [] ∧ q = [] := by
    cases gs with
    | nil => exact ⟨rfl, by simpa [DataW.TrodVars] using hV⟩
    | cons g gs => simp [DataW.TrodVars] at hV
  obtain ⟨rfl, rfl⟩ := hnoV
  have hno : ∀ b, ¬ Owned (fun _ => Pl.unborn) nost b := fun b ⟨_, _, _, _, h, _⟩ => by simp [nost] at h
  obtain ⟨us, hsh, hrep⟩ := args_rep (μ := fun _ => Pl.unborn) (ow := Owned (fun _ => Pl.unborn) nost) (b0 := base) (r := .any) hno (fun t ht => (hts' t ht).1)
    (by rw [hvt, List.append_nil, List.append_nil] at hsz; intro n hn; simpa using List.all_eq_true.1 hsz n hn) (fun j t v hj hv => hval j t v (by simpa using hj) (by simpa using hv)) hA
  have hsat : Sat W (Owned (fun _ => Pl.unborn) nost) (fun _ => Pl.unborn) nost W :=
    ⟨Nat.le_refl _, rfl, rfl, rfl, fun _ _ _ => rfl, ⟨0, fun _ _ => rfl⟩, fun _ _ _ _ _ _ _ _ _ h => by simp [nost] at h, fun _ _ h => by simp [nost] at h, fun b hb => (hno b hb).elim⟩
  have hcall := (hlaw us hsh nost).2 (fun _ => Pl.unborn) W args.toList hsat hrep
  rw [Array.toArray_toList] at hcall
  refine hcall.mono ?_
  rintro e W' ⟨r, σ', μ', val, rfl, ⟨rfl, rfl⟩, _, hs', hr⟩
  simp only [Rep] at hr
  subst hr
  have hbel : Below W.heap.size W W' := ⟨hs'.os, hs'.tape, hs'.output, hs'.size, fun k hk => hs'.same k hk (hno k)⟩
  have hlen : ds.length = f.params.size := by
    have key : ∀ {ts : List TypeId} {vs : List Value} {ds : List (DataW H)} {p : List MemPlace}, DataW.TrodAll enc P W 0 (fun _ => true) true ts vs ds p → ds.length = ts.length := by
      intro ts
      induction ts with
      | nil => intro vs ds p h; cases vs <;> cases ds <;> simp [DataW.TrodAll] at h ⊢
      | cons t ts ih =>
        intro vs ds p h
        obtain ⟨_, _, _, _, _, _, _, rfl, _, _, h2⟩ := trodAll_cons h
        simp [ih h2]
    simpa using key hA
  have hfn' := hfn ds hlen
  refine ⟨.bool true, rfl, post_of_below (pa := p) (pv := []) hW' ?_ ?_ ?_ rfl hbel ?_⟩
  · intro b sp hd
    rw [List.append_nil, hfn', hres]
    exact ⟨[], [], shut_bool htb _, rfl, rfl⟩
  · intro sp hsp
    rw [List.append_nil, hfn']
    refine trodAll_stays hl (fun t ht => (hts' t ht).2) hA hbel (fun x hx => by simpa using hW'.lt x (by simpa using hx)) (fun x hx => hsp x (by simpa using hx))
  · intro sp _
    rw [List.append_nil, hfn', hvars]
    rfl
  · exact ok_one hres rfl (okWide_bool_mk htb _)
end Go.Vc
namespace Go.Vc
theorem BB : (((((((type_of% @s_r_nil) ∧ (type_of% @Ret_one)) ∧ ((type_of% @Ret_two) ∧ (type_of% @Ret_three))) ∧ (((type_of% @Ret_none) ∧ (type_of% @Ret_cell_one)) ∧ ((type_of% @Ret_cell_two) ∧ (type_of% @onSome_some)))) ∧ ((((type_of% @s_r_stop) ∧ (type_of% @s_r_inBlock)) ∧ ((type_of% @s_r_ops_nil) ∧ (type_of% @s_r_skip))) ∧ (((type_of% @s_r_seq) ∧ (type_of% @s_r_block)) ∧ ((type_of% @s_r_exit) ∧ (type_of% @exR_some))))) ∧ (((((type_of% @s_r_ret) ∧ (type_of% @s_r_loop)) ∧ ((type_of% @s_r_rangeF) ∧ (type_of% @s_r_reg))) ∧ (((type_of% @s_r_dreg) ∧ (type_of% @s_d_nil)) ∧ ((type_of% @s_r_cond) ∧ (type_of% @cR_t)))) ∧ ((((type_of% @cR_f) ∧ (type_of% @cR_dec)) ∧ ((type_of% @s_r_ins) ∧ (type_of% @insR_0))) ∧ (((type_of% @insR_1) ∧ (type_of% @insR_2)) ∧ ((type_of% @insR_3) ∧ ((type_of% @insR_4) ∧ (type_of% @callR_some))))))) ∧ ((((((type_of% @callR_none) ∧ (type_of% @callV_eq)) ∧ ((type_of% @callD_some) ∧ (type_of% @callD_none))) ∧ (((type_of% @contR_some) ∧ (type_of% @storeR_some)) ∧ ((type_of% @s_d_ins) ∧ (type_of% @insD_0)))) ∧ ((((type_of% @insD_1) ∧ (type_of% @insD_2)) ∧ ((type_of% @insD_3) ∧ (type_of% @contD_some))) ∧ (((type_of% @storeD_some) ∧ (type_of% @s_r_gins)) ∧ ((type_of% @gR_tup) ∧ (type_of% @gR_tt))))) ∧ (((((type_of% @gR_ff) ∧ (type_of% @gR_tf)) ∧ ((type_of% @gR_ft) ∧ (type_of% @gR_dec_t))) ∧ (((type_of% @gR_dec_f) ∧ (type_of% @s_d_gins)) ∧ ((type_of% @gD_tup) ∧ (type_of% @gD_tt)))) ∧ ((((type_of% @gD_ff) ∧ (type_of% @gD_tf)) ∧ ((type_of% @gD_ft) ∧ (type_of% @gD_dec_t))) ∧ (((type_of% @gD_dec_f) ∧ (type_of% @putO_nothing)) ∧ ((type_of% @putO_lo) ∧ ((type_of% @putO_hi) ∧ (type_of% @mix_get)))))))) ∧ (((((((type_of% @putO_some) ∧ (type_of% @putO_none)) ∧ ((type_of% @lit_t) ∧ (type_of% @lit_c))) ∧ (((type_of% @ev_t) ∧ (type_of% @ev_c)) ∧ ((type_of% @binV_int) ∧ (type_of% @binV_str)))) ∧ ((((type_of% @binPre_int) ∧ (type_of% @binPre_str)) ∧ ((type_of% @lenV_own) ∧ (type_of% @lenV_sl))) ∧ (((type_of% @lenV_nils) ∧ (type_of% @lenV_str)) ∧ ((type_of% @idxAV_own) ∧ (type_of% @loadV_ptr))))) ∧ (((((type_of% @loadV_rp_agg) ∧ (type_of% @loadV_rp_int)) ∧ ((type_of% @upd_same) ∧ (type_of% @upd_upd))) ∧ (((type_of% @true_implies) ∧ (type_of% @false_implies)) ∧ ((type_of% @implies_true.{0}) ∧ (type_of% @keepS_eq)))) ∧ ((((type_of% @List.getD_cons_zero.{0}) ∧ (type_of% @List.getD_cons_succ.{0})) ∧ ((type_of% @List.getD_nil.{0}) ∧ (type_of% @List.map_cons.{0, 0}))) ∧ (((type_of% @List.map_nil.{0, 0}) ∧ (type_of% @List.length_cons.{0})) ∧ ((type_of% @List.length_nil.{0}) ∧ ((type_of% @List.drop_succ_cons.{0}) ∧ (type_of% @List.drop_zero.{0}))))))) ∧ ((((((type_of% @List.take_succ_cons.{0}) ∧ (type_of% @List.take_zero.{0})) ∧ ((type_of% @List.set_cons_zero.{0}) ∧ (type_of% @List.set_cons_succ.{0}))) ∧ (((type_of% @List.append_nil.{0}) ∧ (type_of% @List.nil_append.{0})) ∧ ((type_of% @List.cons_append.{0}) ∧ (type_of% @List.all_cons.{0})))) ∧ ((((type_of% @List.all_nil.{0}) ∧ (type_of% @List.getElem?_cons_zero.{0})) ∧ ((type_of% @List.getElem?_cons_succ.{0}) ∧ (type_of% @List.contains_cons.{0}))) ∧ (((type_of% @List.contains_nil.{0}) ∧ (type_of% @Option.isSome_some.{0})) ∧ ((type_of% @Option.map_some.{0, 0}) ∧ ((type_of% @Option.map_none.{0, 0}) ∧ (type_of% @true_and)))))) ∧ (((((type_of% @and_true) ∧ (type_of% @and_self)) ∧ ((type_of% @Nat.zero_add) ∧ (type_of% @Nat.add_zero))) ∧ (((type_of% @Bool.not_true) ∧ (type_of% @Bool.not_false)) ∧ ((type_of% @Bool.false_eq_true) ∧ (type_of% @Bool.or_true)))) ∧ ((((type_of% @Bool.true_or) ∧ (type_of% @Bool.or_false)) ∧ ((type_of% @Bool.false_or) ∧ (type_of% @Bool.true_and))) ∧ (((type_of% @Bool.and_true) ∧ (type_of% @Bool.and_self)) ∧ ((type_of% @decide_true) ∧ ((type_of% @decide_false) ∧ (type_of% @decide_eq_true_eq)))))))) :=
  ⟨⟨⟨⟨⟨⟨⟨@s_r_nil, @Ret_one⟩, ⟨@Ret_two, @Ret_three⟩⟩, ⟨⟨@Ret_none, @Ret_cell_one⟩, ⟨@Ret_cell_two, @onSome_some⟩⟩⟩, ⟨⟨⟨@s_r_stop, @s_r_inBlock⟩, ⟨@s_r_ops_nil, @s_r_skip⟩⟩, ⟨⟨@s_r_seq, @s_r_block⟩, ⟨@s_r_exit, @exR_some⟩⟩⟩⟩, ⟨⟨⟨⟨@s_r_ret, @s_r_loop⟩, ⟨@s_r_rangeF, @s_r_reg⟩⟩, ⟨⟨@s_r_dreg, @s_d_nil⟩, ⟨@s_r_cond, @cR_t⟩⟩⟩, ⟨⟨⟨@cR_f, @cR_dec⟩, ⟨@s_r_ins, @insR_0⟩⟩, ⟨⟨@insR_1, @insR_2⟩, ⟨@insR_3, ⟨@insR_4, @callR_some⟩⟩⟩⟩⟩⟩, ⟨⟨⟨⟨⟨@callR_none, @callV_eq⟩, ⟨@callD_some, @callD_none⟩⟩, ⟨⟨@contR_some, @storeR_some⟩, ⟨@s_d_ins, @insD_0⟩⟩⟩, ⟨⟨⟨@insD_1, @insD_2⟩, ⟨@insD_3, @contD_some⟩⟩, ⟨⟨@storeD_some, @s_r_gins⟩, ⟨@gR_tup, @gR_tt⟩⟩⟩⟩, ⟨⟨⟨⟨@gR_ff, @gR_tf⟩, ⟨@gR_ft, @gR_dec_t⟩⟩, ⟨⟨@gR_dec_f, @s_d_gins⟩, ⟨@gD_tup, @gD_tt⟩⟩⟩, ⟨⟨⟨@gD_ff, @gD_tf⟩, ⟨@gD_ft, @gD_dec_t⟩⟩, ⟨⟨@gD_dec_f, @putO_nothing⟩, ⟨@putO_lo, ⟨@putO_hi, @mix_get⟩⟩⟩⟩⟩⟩⟩, ⟨⟨⟨⟨⟨⟨@putO_some, @putO_none⟩, ⟨@lit_t, @lit_c⟩⟩, ⟨⟨@ev_t, @ev_c⟩, ⟨@binV_int, @binV_str⟩⟩⟩, ⟨⟨⟨@binPre_int, @binPre_str⟩, ⟨@lenV_own, @lenV_sl⟩⟩, ⟨⟨@lenV_nils, @lenV_str⟩, ⟨@idxAV_own, @loadV_ptr⟩⟩⟩⟩, ⟨⟨⟨⟨@loadV_rp_agg, @loadV_rp_int⟩, ⟨@upd_same, @upd_upd⟩⟩, ⟨⟨@true_implies, @false_implies⟩, ⟨@implies_true.{0}, @keepS_eq⟩⟩⟩, ⟨⟨⟨@List.getD_cons_zero.{0}, @List.getD_cons_succ.{0}⟩, ⟨@List.getD_nil.{0}, @List.map_cons.{0, 0}⟩⟩, ⟨⟨@List.map_nil.{0, 0}, @List.length_cons.{0}⟩, ⟨@List.length_nil.{0}, ⟨@List.drop_succ_cons.{0}, @List.drop_zero.{0}⟩⟩⟩⟩⟩⟩, ⟨⟨⟨⟨⟨@List.take_succ_cons.{0}, @List.take_zero.{0}⟩, ⟨@List.set_cons_zero.{0}, @List.set_cons_succ.{0}⟩⟩, ⟨⟨@List.append_nil.{0}, @List.nil_append.{0}⟩, ⟨@List.cons_append.{0}, @List.all_cons.{0}⟩⟩⟩, ⟨⟨⟨@List.all_nil.{0}, @List.getElem?_cons_zero.{0}⟩, ⟨@List.getElem?_cons_succ.{0}, @List.contains_cons.{0}⟩⟩, ⟨⟨@List.contains_nil.{0}, @Option.isSome_some.{0}⟩, ⟨@Option.map_some.{0, 0}, ⟨@Option.map_none.{0, 0}, @true_and⟩⟩⟩⟩⟩, ⟨⟨⟨⟨@and_true, @and_self⟩, ⟨@Nat.zero_add, @Nat.add_zero⟩⟩, ⟨⟨@Bool.not_true, @Bool.not_false⟩, ⟨@Bool.false_eq_true, @Bool.or_true⟩⟩⟩, ⟨⟨⟨@Bool.true_or, @Bool.or_false⟩, ⟨@Bool.false_or, @Bool.true_and⟩⟩, ⟨⟨@Bool.and_true, @Bool.and_self⟩, ⟨@decide_true, ⟨@decide_false, @decide_eq_true_eq⟩⟩⟩⟩⟩⟩⟩⟩
end Go.Vc
namespace Go.Vc
variable {P : Program} {n : Nat} {st : St} {Q : St → Prop} {k : List It} {μ : Mu} {w w' : World}
/-- a row that holds an object -/
abbrev gh (o : Obj) (env : List V := []) : Ob := ⟨0, 0, .obj o :: env⟩
/-- an object is made -/
theorem Sat.newG {w0 : World} {ow0 : Nat → Prop} {σ : Store} (h : Sat w0 ow0 μ σ w) (o : Obj) (env : List V) (he : RepAll μ (Owned μ σ) w env (tmpsOf o)) :
    ∃ id, σ id = none ∧ ∃ μ' : Mu, μ' id = .lies w.heap.size 0 0 ∧ MuLe μ μ' ∧ Sat w0 ow0 μ' (upd σ id (gh o env)) (w.alloc o) ∧ Keeps (Owned μ σ) (Owned μ' (upd σ id (gh o env))) w (w.alloc o) := by
  obtain ⟨id, hid, hσ, hfin⟩ := h.unborn
  have hle : MuLe μ (fun k => if k = id then .lies w.heap.size 0 0 else μ k) := fun k hk => by
    have : k ≠ id := fun e' => hk (e' ▸ hid)
    simp [this]
  refine ⟨id, hσ, fun k => if k = id then .lies w.heap.size 0 0 else μ k, by simp, hle, ?_⟩
  refine h.put (row := none) (World.grownBy_alloc w o none) (by simp) hle (hfin _) id (gh o env) (fun o' ho => ?_) (fun i o' hi ho => ?_) (fun b' sz' cap' hb' => ?_) (fun hk => ?_)
  · simp [upd] at ho; exact ho.symm
  · simp only [upd, if_neg hi] at ho
    exact ⟨ho, by simp⟩
  · simp only [if_true, Pl.lies.injEq] at hb'
    exact .inr (by omega)
  · simp only [if_true]
    exact .inr ⟨rfl, rfl, o, env, rfl, World.alloc_heap_new w o, RepAll.mono hle hk (by simp) _ _ he⟩
/-- an object is changed -/
theorem Sat.setG {w0 : World} {ow0 : Nat → Prop} {σ : Store} (h : Sat w0 ow0 μ σ w) {id b cap : Nat} {o : Ob} (ho : σ id = some o) (hid : μ id = .lies b 0 cap) (o' : Obj) (env : List V) (he : RepAll μ (Owned μ σ) w env (tmpsOf o')) :
    Sat w0 ow0 μ (upd σ id (gh o' env)) (w.putObj b o') ∧ Keeps (Owned μ σ) (Owned μ (upd σ id (gh o' env))) w (w.putObj b o') := by
  have hlt : b < w.heap.size := Owned.lt h ⟨id, o, 0, cap, ho, hid⟩
  refine h.put (grownBy_putObj' w b o') (fun b' hb' => by cases hb'; exact ⟨id, o, 0, cap, ho, hid⟩) (MuLe.refl _) h.fin id (gh o' env) (fun x hx' => by simp [upd] at hx'; exact hx'.symm)
    (fun i x hi hx' => ?_) (fun b' sz' cap' hb' => ?_) (fun hk => ?_)
  · simp only [upd, if_neg hi] at hx'
    refine ⟨hx', fun b' sz' cap' h4 h5 => hi ?_⟩
    cases h5
    exact h.inj i id x o _ _ _ _ _ hx' ho h4 hid
  · rw [hid] at hb'; cases hb'; exact .inl rfl
  · rw [hid]
    exact .inr ⟨rfl, rfl, o', env, rfl, World.putObj_heap_same hlt, RepAll.mono (MuLe.refl _) hk (by simp) _ _ he⟩
/-- the object of such a row -/
theorem Sat.getG {w0 : World} {ow0 : Nat → Prop} {σ : Store} (h : Sat w0 ow0 μ σ w) {id b cap : Nat} {o : Obj} {env : List V} (ho : σ id = some (gh o env)) (hid : μ id = .lies b 0 cap) : w.heap[b]? = some o ∧ RepAll μ (Owned μ σ) w env (tmpsOf o) := by
  have := h.obj id _ ho
  rw [hid] at this
  rcases this with ⟨_, _, _, h1, _⟩ | ⟨_, _, ob, env', h1, h2, h3⟩
  · omega
  · simp only [List.cons.injEq, V.obj.injEq] at h1
    obtain ⟨rfl, rfl⟩ := h1; exact ⟨h2, h3⟩
theorem cop_rngS {o : Op} {xv : VX} (h : cop P n o = .rngS false xv) : ∃ t x, o = .range t x ∧ P.underlying t = some .string ∧ cx n x = xv := by
  cases o
  case range t x =>
    simp only [cop] at h
    split at h
    · rename_i ht; simp only [VOp.rngS.injEq, true_and] at h; exact ⟨t, x, rfl, ht, h⟩
    · cases h
  case call c =>
    obtain ⟨callee, args, argTypes⟩ := c
    cases callee
    case builtin b => cases b <;> simp only [cop, nilB] at h <;> (repeat' split at h) <;> cases h
    all_goals (simp only [cop, nilB] at h; cases h)
  case unOp op t x => cases op <;> simp only [cop, nilB] at h <;> cases h
  case makeFunc f a b => cases f <;> simp only [cop, nilB] at h <;> (repeat' split at h) <;> cases h
  all_goals (simp only [cop, nilB] at h; (repeat' split at h) <;> cases h)
theorem intStr_of {a b : TypeId} (h : intStr P a b = true) : (P.underlying a).isSome = true ∧ P.underlying b = some .string := by
  unfold intStr at h
  split at h
  · rename_i h1 h2; exact ⟨by rw [h1]; rfl, h2⟩
  · cases h
theorem cop_runeS {o : Op} {xv : VX} (h : cop P n o = .rngS true xv) : ∃ a b x, o = .convert a b x ∧ intStr P a b = true ∧ cx n x = xv := by
  cases o
  case convert a b x =>
    simp only [cop] at h
    split at h
    · cases h
    · split at h <;> cases h
    · split at h
      · rename_i ht; simp only [VOp.rngS.injEq, true_and] at h; exact ⟨a, b, x, rfl, ht, h⟩
      · cases h
  case call c =>
    obtain ⟨callee, args, argTypes⟩ := c
    cases callee
    case builtin b => cases b <;> simp only [cop, nilB] at h <;> (repeat' split at h) <;> cases h
    all_goals (simp only [cop, nilB] at h; cases h)
  case unOp op t x => cases op <;> simp only [cop, nilB] at h <;> cases h
  case makeFunc f a b => cases f <;> simp only [cop, nilB] at h <;> (repeat' split at h) <;> cases h
  all_goals (simp only [cop, nilB] at h; (repeat' split at h) <;> cases h)
/-- a character as a string -/
theorem Runs.runeS {i : VIns} {l : List VIns} {xv : VX} (hw : wantV st.s i.g = some true) (ho : i.op = .rngS true xv) {c : IntKind} {r : Int} (hx : xv.ev st.s = .int c r)
    (h : Runs P n (.ops l :: k) ⟨putO st.s i.dst (.str (Utf8.encode r).data.toList), st.σ⟩ Q) : Runs P n (.ops (i :: l) :: k) st Q := by
  refine Runs.ins (by rw [ho]; simp) hw fun F hn μ a w o all hi hs next Q' hnext => ?_
  subst hn
  obtain ⟨hop, hd⟩ := cins_op hi
  rw [ho] at hop
  obtain ⟨ta, tb, x, h1, h2, rfl⟩ := cop_runeS hop
  obtain ⟨h3, h4⟩ := intStr_of h2
  have hr := rep_cx hs x
  rw [hx] at hr
  simp only [Rep] at hr
  unfold Oper.wp
  have hrun : (execOp a.eval o).run P w = .ok (.value (.string (Utf8.encode r))) w := by
    unfold execOp
    rw [h1]
    simp only [hr, Sem.run_bind, run_convert_int_string w ta tb c r h3 h4, Result.andThen_ok, Sem.run_pure]
  rw [hrun]
  refine hnext _ _ _ ⟨μ, ?_⟩ h
  rw [← hd]
  exact hs.pure (by simp only [Rep])
theorem cop_nxtS {o : Op} {xv : VX} (h : cop P n o = .nxtS xv) : ∃ x, o = .next x true ∧ cx n x = xv := by
  cases o
  case next x b =>
    simp only [cop] at h
    split at h
    · rename_i hb; subst hb; simp only [VOp.nxtS.injEq] at h; exact ⟨x, rfl, h⟩
    · cases h
  case call c =>
    obtain ⟨callee, args, argTypes⟩ := c
    cases callee
    case builtin b => cases b <;> simp only [cop, nilB] at h <;> (repeat' split at h) <;> cases h
    all_goals (simp only [cop, nilB] at h; cases h)
  case unOp op t x => cases op <;> simp only [cop, nilB] at h <;> cases h
  case makeFunc f a b => cases f <;> simp only [cop, nilB] at h <;> (repeat' split at h) <;> cases h
  all_goals (simp only [cop, nilB] at h; (repeat' split at h) <;> cases h)
/-- a range over a string begins -/
theorem Runs.rngS {i : VIns} {l : List VIns} {xv : VX} (hw : wantV st.s i.g = some true) (ho : i.op = .rngS false xv) {s : List UInt8} (hx : xv.ev st.s = .str s)
    (h : ∀ id, st.σ id = none → Runs P n (.ops l :: k) ⟨putO st.s i.dst (.gp id), upd st.σ id (gh (.stringIter ⟨s.toArray⟩ 0))⟩ Q) : Runs P n (.ops (i :: l) :: k) st Q := by
  refine Runs.ins (by rw [ho]; simp) hw fun F hn μ a w o all hi hs next Q' hnext => ?_
  subst hn
  obtain ⟨hop, hd⟩ := cins_op hi
  rw [ho] at hop
  obtain ⟨t, x, h1, h2, rfl⟩ := cop_rngS hop
  have hr := rep_cx hs x
  rw [hx] at hr
  simp only [Rep] at hr
  obtain ⟨id, hid, μ', g1, g2, g3, g4⟩ := hs.sat.newG (.stringIter ⟨s.toArray⟩ 0) [] (by simp [RepAll, tmpsOf])
  unfold Oper.wp
  have hrun : (execOp a.eval o).run P w = .ok (.value (.pointer (some ⟨w.heap.size, 0, none⟩))) (w.alloc (.stringIter ⟨s.toArray⟩ 0)) := by
    unfold execOp
    rw [h1]
    simp only [hr, Sem.run_bind, run_range_string w t ⟨s.toArray⟩ h2, Result.andThen_ok, Sem.run_pure]
    rfl
  rw [hrun]
  refine hnext _ _ _ ⟨μ', ?_⟩ (h id hid)
  rw [← hd]
  exact hs.step g3 g2 g4 (by simp) (by simp [Rep, g1])
/-- its next character, or its end -/
theorem Runs.nxtS {i : VIns} {l : List VIns} {xv : VX} (hw : wantV st.s i.g = some true) (ho : i.op = .nxtS xv) {id : Nat} (hx : xv.ev st.s = .gp id) {s : List UInt8} {pos : Nat}
    (hσ : st.σ id = some (gh (.stringIter ⟨s.toArray⟩ pos)))
    (h1 : pos < s.length → Runs P n (.ops l :: k) ⟨putO st.s i.dst (.tup [.bool true, .int .i64 pos, .int .i32 (Utf8.decode ⟨s.toArray⟩ pos).1]),
      upd st.σ id (gh (.stringIter ⟨s.toArray⟩ (pos + (Utf8.decode ⟨s.toArray⟩ pos).2)))⟩ Q)
    (h2 : ¬ pos < s.length → Runs P n (.ops l :: k) ⟨putO st.s i.dst (.tup [.bool false]), st.σ⟩ Q) : Runs P n (.ops (i :: l) :: k) st Q := by
  refine Runs.ins (by rw [ho]; simp) hw fun F hn μ a w o all hi hs next Q' hnext => ?_
  subst hn
  obtain ⟨hop, hd⟩ := cins_op hi
  rw [ho] at hop
  obtain ⟨x, h3, rfl⟩ := cop_nxtS hop
  have hr := rep_cx hs x
  rw [hx] at hr
  simp only [Rep] at hr
  split at hr
  · rename_i b cap hid
    have hob := (hs.sat.getG hσ hid).1
    have hsz : (ByteArray.mk s.toArray).size = s.length := by simp [ByteArray.size]
    unfold Oper.wp
    by_cases hp : pos < s.length
    · have hrun : (execOp a.eval o).run P w = .ok (.value (.tuple #[.bool true, .int .i64 pos, .int .i32 (Utf8.decode ⟨s.toArray⟩ pos).1]))
          (w.putObj b (.stringIter ⟨s.toArray⟩ (pos + (Utf8.decode ⟨s.toArray⟩ pos).2))) := by
        unfold execOp
        rw [h3]
        simp [hr, Instr.next, getObj, setObj, Sem.run, hob, hsz, hp, World.putObj, goInt]
      rw [hrun]
      have hset := hs.sat.setG hσ hid (.stringIter ⟨s.toArray⟩ (pos + (Utf8.decode ⟨s.toArray⟩ pos).2)) [] (by simp [RepAll, tmpsOf])
      refine hnext _ _ _ ⟨μ, ?_⟩ (h1 hp)
      rw [← hd]
      exact hs.step hset.1 (MuLe.refl _) hset.2 (by simp) (by simp only [Rep]; exact ⟨_, rfl, by simp [RepAll, Rep]⟩)
    · have hrun : (execOp a.eval o).run P w = .ok (.value (.tuple #[.bool false])) w := by
        unfold execOp
        rw [h3]
        simp [hr, Instr.next, getObj, Sem.run, hob, hsz, hp]
      rw [hrun]
      refine hnext _ _ _ ⟨μ, ?_⟩ (h2 hp)
      rw [← hd]
      exact hs.pure (by simp only [Rep]; exact ⟨_, rfl, by simp [RepAll, Rep]⟩)
  · exact hr.elim
end Go.Vc
namespace Go.Vc
variable {P : Program} {n : Nat} {st : St} {Q : St → Prop} {k : List It} {μ : Mu} {w w' : World}
/-- a call whose world is told from where it began -/
theorem Sat.compose {w0 : World} {ow0 : Nat → Prop} {μ μ' : Mu} {σ σ' : Store} (h0 : Sat w0 ow0 μ σ w) (hs' : Sat w (Owned μ σ) μ' σ' w') :
    Sat w0 ow0 μ' σ' w' ∧ Keeps (Owned μ σ) (Owned μ' σ') w w' := by
  have hkeep : Keeps (Owned μ σ) (Owned μ' σ') w w' := fun b hb hn => ⟨fun ho => hn (hs'.fresh b ho hb), hs'.same b hb hn⟩
  refine ⟨⟨Nat.le_trans h0.size hs'.size, hs'.os.trans h0.os, hs'.tape.trans h0.tape, hs'.output.trans h0.output, ?_, hs'.fin, hs'.inj, hs'.obj, ?_⟩, hkeep⟩
  · intro b hb hn
    have h1 : ¬ Owned μ σ b := fun ho => hn (h0.fresh b ho hb)
    exact (hs'.same b (Nat.lt_of_lt_of_le hb h0.size) h1).trans (h0.same b hb hn)
  · intro b hb hlt
    exact h0.fresh b (hs'.fresh b hb (Nat.lt_of_lt_of_le hlt h0.size)) hlt
theorem Sat.here {w0 : World} {ow0 : Nat → Prop} {σ : Store} (h : Sat w0 ow0 μ σ w) : Sat w (Owned μ σ) μ σ w :=
  ⟨Nat.le_refl _, rfl, rfl, rfl, fun _ _ _ => rfl, h.fin, h.inj, h.obj, fun b hb _ => hb⟩
/-- what a call of yield of the loop 'idl' comes to -/
def YC (P : Program) (idl : Nat) (x : List V) (σ : Store) (Post : Bool → Store → Prop) : Prop :=
  ∀ μ w vals l c, μ idl = .lies l 0 c → Sat w (Owned μ σ) μ σ w → RepAll μ (Owned μ σ) w x vals →
    YieldAt Fence.wide 0 P l vals.toArray w fun e w' => ∃ b σ' μ', e = .returned (.bool b) ∧ Post b σ' ∧ MuLe μ μ' ∧ Sat w (Owned μ σ) μ' σ' w'
theorem roundIn_fence {F : Fr} {m m' : Nat} {l : Nat} {f : FuncId} {tmps : Array Value} {assign body : Code} {R : Ending → World → Prop}
    (h : RoundIn Fence.wide m P l f tmps assign body w R) : RoundIn F.fence m' P l f tmps assign body w R :=
  ⟨trivial, fun c cs _ => h.2 c cs (room_wide _)⟩
theorem Runs.ycall {i : VIns} {l : List VIns} {fx : VX} {xs : List VX} (hw : wantV st.s i.g = some true) (ho : i.op = .call fx xs) {idl : Nat} (hf : fx.ev st.s = .yl idl)
    {Post : Bool → Store → Prop} (hc : YC P idl (xs.map (·.ev st.s)) st.σ Post)
    (h : ∀ b σ', Post b σ' → Runs P n (.ops l :: k) ⟨putO st.s i.dst (.bool b), σ'⟩ Q) : Runs P n (.ops (i :: l) :: k) st Q := by
  refine Runs.insIn hw fun F hn μ a w o all hi hs next Q' hnext => ?_
  subst hn
  obtain ⟨hop, hd⟩ := cins_op hi
  rw [ho] at hop
  obtain ⟨f0, args, argTypes, g1, rfl, rfl⟩ := cop_call hop
  have hfr := rep_cx hs f0
  rw [hf] at hfr
  simp only [Rep] at hfr
  split at hfr
  · rename_i lb c hid
    have hargs := rep_cxs hs args.toList
    obtain ⟨fn, tmps, assign, body, hy, hR⟩ := hc μ w _ lb c hid hs.sat.here hargs
    have hrun : (execOp a.eval o).run P w = .ok (.round lb fn tmps assign body) w := by
      unfold execOp
      rw [g1]
      simp only [resolve, hfr, Deferred.ofValue, Sem.run_bind, Sem.run_pure, Result.andThen_ok, invoke]
      rw [← hy]
      congr 2
      apply Array.ext'
      simp
    refine ⟨fun _ _ => trivial, ?_⟩
    rw [Oper.semAt_eq _ _ _ (by rw [g1]; intro c e; cases e), hrun]
    refine ⟨fence_depth F, roundIn_fence (hR.mono ?_)⟩
    rintro e w' ⟨b, σ', μ', rfl, hp, hle, hs'⟩
    obtain ⟨h1, h2⟩ := hs.sat.compose hs'
    refine hnext _ _ _ ⟨μ', ?_⟩ (h b σ' hp)
    rw [← hd]
    exact hs.step h1 hle h2 hs'.size (by simp [Rep])
  · exact hfr.elim
/-- rows beside stay -/
def Beside (σJ σ σJ' σ' : Store) : Prop := SubStore σJ' σ' ∧ ∀ id o, σJ id = none → σ id = some o → σ' id = some o ∧ σJ' id = none
theorem Beside.refl {σJ σ : Store} (h : SubStore σJ σ) : Beside σJ σ σJ σ := ⟨h, fun _ _ h1 h2 => ⟨h2, h1⟩⟩
theorem Beside.set {σJ σ σJ' σ' : Store} (h : Beside σJ σ σJ' σ') {id : Nat} {o o' : Ob} (hid : σJ' id = some o) : Beside σJ σ (upd σJ' id o') (upd σ' id o') :=
  ⟨h.1.upd2, fun i x h1 h2 => by
    obtain ⟨h3, h4⟩ := h.2 i x h1 h2
    have : i ≠ id := fun e => by rw [e, hid] at h4; cases h4
    simp [Vc.upd, this, h3, h4]⟩
theorem Beside.new {σJ σ σJ' σ' : Store} (h : Beside σJ σ σJ' σ') {id : Nat} {o : Ob} (hid : σ' id = none) : Beside σJ σ (upd σJ' id o) (upd σ' id o) :=
  ⟨h.1.upd2, fun i x h1 h2 => by
    obtain ⟨h3, h4⟩ := h.2 i x h1 h2
    have : i ≠ id := fun e => by rw [e, hid] at h3; cases h3
    simp [Vc.upd, this, h3, h4]⟩
theorem Beside.new' {σJ σ σJ' σ' : Store} (h : Beside σJ σ σJ' σ') {id : Nat} {o : Ob} (hid : σ' id = none) : Beside σJ σ σJ' (upd σ' id o) :=
  ⟨h.1.trans (SubStore.upd (SubStore.refl _) hid), fun i x h1 h2 => by
    obtain ⟨h3, h4⟩ := h.2 i x h1 h2
    have : i ≠ id := fun e => by rw [e, hid] at h3; cases h3
    simp [Vc.upd, this, h3, h4]⟩
/-- An iterator gives these, one by one. -/
def Iter (P : Program) (g : FuncId) (caps : List V) (xs : List (List V)) : Prop :=
  callable P g = true ∧ ∀ (idl : Nat) (J Jx : List (List V) → Store → Prop) (σ0 : Store),
    (∀ pre x post σJ σ, xs = pre ++ x :: post → J pre σJ → SubStore σJ σ →
      YC P idl x σ fun b σ' => ∃ σJ', Beside σJ σ σJ' σ' ∧ ((b = true ∧ J (pre ++ [x]) σJ') ∨ (b = false ∧ Jx (pre ++ [x]) σJ'))) →
    J [] σ0 → PCall P g (.yl idl :: caps) σ0 fun _ σ' => J xs σ' ∨ ∃ pre, pre <+: xs ∧ Jx pre σ'
end Go.Vc
namespace Go.Vc
variable {P : Program} {n : Nat} {st : St} {Q : St → Prop} {k : List It} {μ : Mu} {w w' : World}
/-- a round's values come into the slots -/
def putL (s : Nat → V) : List Nat → List V → Nat → V
  | p :: ps, x :: xs => putL (fun i => if i = p then x else s i) ps xs
  | _, _ => s
/-- where a round may be left to -/
def exK : List (Nat × (St → Prop)) → List It
  | [] => []
  | (id, I) :: l => .inBlock id :: .stop I :: exK l
theorem del_sub {σ σ' : Store} {id : Nat} (h : SubStore σ σ') : SubStore (del σ id) (del σ' id) := fun i o e => by
  unfold del at e ⊢
  split at e
  · cases e
  · rename_i hi; rw [if_neg hi]; exact h i o e
/-- a block that nobody owns is made -/
theorem Sat.more {w0 : World} {ow0 : Nat → Prop} {σ : Store} (h : Sat w0 ow0 μ σ w) (o : Obj) : Sat w0 ow0 μ σ (w.alloc o) ∧ Keeps (Owned μ σ) (Owned μ σ) w (w.alloc o) := by
  have hsame : ∀ b, b < w.heap.size → (w.alloc o).heap[b]? = w.heap[b]? := fun b hb => Go.RowKit.Below.heap_alloc w o b hb
  have hk : Keeps (Owned μ σ) (Owned μ σ) w (w.alloc o) := fun b hb hn => ⟨hn, hsame b hb⟩
  refine ⟨⟨by have := h.size; simp; omega, h.os, h.tape, h.output, fun b hb hn => (hsame b (Nat.lt_of_lt_of_le hb h.size)).trans (h.same b hb hn), h.fin, h.inj, fun id ob ho => ?_, h.fresh⟩, hk⟩
  exact (h.obj id ob ho).mono (MuLe.refl μ) hk (by simp) fun b sz cap hp => hsame b (Owned.lt h ⟨id, ob, sz, cap, ho, hp⟩)
/-- the loop is entered: at an outermost one a block for deferred calls is laid -/
theorem SatM.enter {F : Fr} {a : Act} (hs : SatM F μ st a w) (fn : FuncId) (ps : Array Tmp) (assign body : Code) :
    ∃ mark W0 D, SatM F μ st { a with defers := mark ++ a.defers } W0 ∧ (Instr.enterLoop fn a.tmps ps assign body F.fence.round).run P w =
      .ok (W0.heap.size, mark) (W0.alloc (.loop { state := .ready, pending := none, fn, tmps := a.tmps, params := ps, assign, body, defers := D })) := by
  cases hrd : F.rd with
  | some lr =>
    obtain ⟨l0, r0⟩ := lr
    obtain ⟨h1, _⟩ := hs.book.rnd l0 r0 hrd
    refine ⟨[], w, r0.defers, hs, ?_⟩
    have : F.fence.round = some l0 := by simp [Fr.fence, hrd]
    rw [this]
    exact run_enterLoop_inner h1 fn a.tmps ps assign body
  | none =>
    have : F.fence.round = none := by simp [Fr.fence, hrd]
    rw [this]
    refine ⟨[{ target := .collected w.heap.size, args := #[] }], w.alloc (.deferred (some [])), w.heap.size, ?_, ?_⟩
    · obtain ⟨h1, hk⟩ := hs.sat.more (.deferred (some []))
      have hb := hs.book.keep hk
      refine ⟨h1, hs.le, hs.size, ⟨hb.rnd, ?_⟩, fun i hi => Rep.mono (MuLe.refl μ) hk (by simp) _ _ (hs.slot i hi)⟩
      obtain ⟨Ds, g1, g2, g3⟩ := hb.marks
      obtain ⟨Ds', g1', g2', g3'⟩ := hs.book.marks
      refine ⟨w.heap.size :: Ds', by simp [g1'], ?_, ?_⟩
      · refine List.nodup_cons.2 ⟨fun hin => ?_, g2'⟩
        have := (Array.getElem?_eq_some_iff.1 (g3' _ hin).2.1).1
        omega
      · intro D hD
        simp only [List.mem_cons] at hD
        rcases hD with rfl | hD
        · refine ⟨hs.sat.size, World.alloc_heap_new w _, fun ho => ?_⟩
          have := Owned.lt hs.sat ho
          omega
        · obtain ⟨q1, q2, q3⟩ := g3' D hD
          have hlt := (Array.getElem?_eq_some_iff.1 q2).1
          exact ⟨q1, (hk D hlt q3).2.trans q2, q3⟩
    · rw [run_enterLoop_outer]
      simp
theorem foldl_get (ps : List Nat) : ∀ (xs : List Value) (t : Array Value) (vs : List V) (s : Nat → V) {ow : Nat → Prop} (m : Nat), t.size = m → RepAll μ ow w vs xs → vs.length = ps.length →
    (∀ i, i < m → Rep μ ow w (s i) (t.getD i undef)) →
    ((ps.zip xs).foldl (fun t (p, v) => t.setIfInBounds p v) t).size = m ∧ ∀ i, i < m → Rep μ ow w (putL s ps vs i) (((ps.zip xs).foldl (fun t (p, v) => t.setIfInBounds p v) t).getD i undef) := by
  induction ps with
  | nil => intro xs t vs s ow m ht _ _ hi; exact ⟨by simpa using ht, by simpa [putL] using hi⟩
  | cons p ps ih =>
    intro xs t vs s ow m ht hv hl hi
    cases vs with
    | nil => simp at hl
    | cons v vs =>
      simp only [RepAll] at hv
      obtain ⟨x, xs', rfl, h1, h2⟩ := hv
      simp only [List.zip_cons_cons, List.foldl_cons, putL]
      refine ih xs' (t.setIfInBounds p x) vs _ m (by simp [ht]) h2 (by simpa using hl) fun i hlt => ?_
      by_cases hip : i = p
      · subst hip
        rw [if_pos rfl, Array.getD_eq_getD_getElem?, Array.getElem?_setIfInBounds_self_of_lt (by omega)]
        exact h1
      · rw [if_neg hip, Array.getD_eq_getD_getElem?, Array.getElem?_setIfInBounds_ne (fun e => hip e.symm), ← Array.getD_eq_getD_getElem?]
        exact hi i hlt
end Go.Vc
namespace Go.Vc
variable {P : Program} {n : Nat} {st : St} {Q : St → Prop} {k : List It} {μ : Mu} {w w' : World}
/-- a block without cells that nobody owns is changed -/
theorem poke_cells {b : Nat} {o o' : Obj} (h : w.heap[b]? = some o) (hc : ∀ off x, w.cell? ⟨b, off, none⟩ ≠ some x) :
    (∀ b', b' ≠ b → (w.putObj b o').heap[b']? = w.heap[b']?) ∧ ∀ (ow : Nat → Prop), KeepsC ow ow w (w.putObj b o') := by
  have hne : ∀ b', b' ≠ b → (w.putObj b o').heap[b']? = w.heap[b']? := fun b' hb => World.putObj_heap_other hb
  refine ⟨hne, fun ow b' _ hn => ⟨hn, fun off x hx => ?_⟩⟩
  by_cases hb : b' = b
  · subst hb; exact absurd hx (hc off x)
  · exact cells_of_heap (hne b' hb) off x hx
theorem no_cells_loop {b : Nat} {r : Loop} (h : w.heap[b]? = some (.loop r)) : ∀ off x, w.cell? ⟨b, off, none⟩ ≠ some x := fun off x => by simp [World.cell?, h]
/-- the record within a round: it is nobody's; it is changed -/
theorem SatM.poke {F F' : Fr} {a : Act} {l : Nat} {r r' : Loop} (hs : SatM F μ st a w) (hF : F.rd = some (l, r)) (hF' : F' = { F with rd := some (l, r') }) (hl : l < F.w0.heap.size → F.ow0 l) :
    SatM F' μ st a (w.putObj l (.loop r')) := by
  subst hF'
  obtain ⟨h1, h2⟩ := hs.book.rnd l r hF
  obtain ⟨hne, hk⟩ := poke_cells (o' := .loop r') h1 (no_cells_loop h1)
  have hk := hk (Owned μ st.σ)
  have hz : w.heap.size ≤ (w.putObj l (.loop r')).heap.size := by simp
  have hlt := (Array.getElem?_eq_some_iff.1 h1).1
  refine ⟨⟨by simpa using hs.sat.size, hs.sat.os, hs.sat.tape, hs.sat.output, fun b hb hn => ?_, hs.sat.fin, hs.sat.inj, fun id o ho => ?_, hs.sat.fresh⟩, hs.le, hs.size, ⟨fun l' r'' e => ?_, ?_⟩, fun i hi => Rep.monoC (MuLe.refl μ) hk hz _ _ (hs.slot i hi)⟩
  · by_cases hb' : b = l
    · subst hb'; exact absurd (hl hb) hn
    · exact (hne b hb').trans (hs.sat.same b hb hn)
  · refine (hs.sat.obj id o ho).monoC (MuLe.refl μ) hk hz fun b sz cap hp => hne b ?_
    rintro rfl
    exact h2 ⟨id, o, sz, cap, ho, hp⟩
  · simp only [Option.some.injEq, Prod.mk.injEq] at e
    obtain ⟨rfl, rfl⟩ := e
    exact ⟨World.putObj_heap_same hlt, h2⟩
  · obtain ⟨Ds, g1, g2, g3⟩ := hs.book.marks
    refine ⟨Ds, g1, g2, fun D hD => ?_⟩
    obtain ⟨q1, q2, q3⟩ := g3 D hD
    refine ⟨q1, (hne D ?_).trans q2, q3⟩
    rintro rfl
    rw [h1] at q2; cases q2
/-- a block without cells that nobody owned becomes a row -/
theorem Sat.regain {w0 : World} {ow0 : Nat → Prop} {σ : Store} (h : Sat w0 ow0 μ σ w) {idl l c : Nat} (hσ : σ idl = none) (hid : μ idl = .lies l 0 c) (hno : ¬ Owned μ σ l) {r : Loop} (hr : w.heap[l]? = some (.loop r))
    (hl : l < w0.heap.size → ow0 l) (o : Obj) (env : List V) (he : RepAll μ (Owned μ σ) w env (tmpsOf o)) : Sat w0 ow0 μ (upd σ idl (gh o env)) (w.putObj l o) := by
  obtain ⟨hne, _⟩ := poke_cells (o' := o) hr (no_cells_loop hr)
  have hlt := (Array.getElem?_eq_some_iff.1 hr).1
  have hz : w.heap.size ≤ (w.putObj l o).heap.size := by simp
  have hown : ∀ b, Owned μ (upd σ idl (gh o env)) b → Owned μ σ b ∨ b = l := by
    rintro b ⟨id, ob, sz, cap, h1, h2⟩
    by_cases e : id = idl
    · subst e; rw [hid] at h2; cases h2; exact .inr rfl
    · rw [upd_ne e] at h1; exact .inl ⟨id, ob, sz, cap, h1, h2⟩
  have hk : KeepsC (Owned μ σ) (Owned μ (upd σ idl (gh o env))) w (w.putObj l o) := fun b ⟨off, x, hx⟩ hn => by
    have hbl : b ≠ l := by rintro rfl; exact no_cells_loop hr off x hx
    exact ⟨fun ho => (hown b ho).elim hn hbl, cells_of_heap (hne b hbl)⟩
  refine ⟨by simpa using h.size, h.os, h.tape, h.output, fun b hb hn => ?_, h.fin, ?_, ?_, ?_⟩
  · by_cases hb' : b = l
    · subst hb'; exact absurd (hl hb) hn
    · exact (hne b hb').trans (h.same b hb hn)
  · intro id id' ob ob' b sz cap sz' cap' h1 h2 h3 h4
    by_cases e : id = idl <;> by_cases e' : id' = idl
    · rw [e, e']
    · exfalso
      subst e; rw [hid] at h3; cases h3
      rw [upd_ne e'] at h2
      exact hno ⟨id', ob', sz', cap', h2, h4⟩
    · exfalso
      subst e'; rw [hid] at h4; cases h4
      rw [upd_ne e] at h1
      exact hno ⟨id, ob, sz, cap, h1, h3⟩
    · rw [upd_ne e] at h1; rw [upd_ne e'] at h2
      exact h.inj id id' ob ob' b sz cap sz' cap' h1 h2 h3 h4
  · intro id ob ho
    by_cases e : id = idl
    · subst e
      rw [upd_same] at ho; cases ho
      rw [hid]
      exact .inr ⟨rfl, rfl, o, env, rfl, World.putObj_heap_same hlt, RepAll.monoC (MuLe.refl μ) hk hz _ _ he⟩
    · rw [upd_ne e] at ho
      refine (h.obj id ob ho).monoC (MuLe.refl μ) hk hz fun b sz cap hp => hne b ?_
      rintro rfl
      exact hno ⟨id, ob, sz, cap, ho, hp⟩
  · intro b hb hlt'
    rcases hown b hb with h1 | h1
    · exact h.fresh b h1 hlt'
    · subst h1; exact hl hlt'
end Go.Vc
namespace Go.Vc
variable {P : Program} {n : Nat} {st : St} {Q : St → Prop} {k : List It} {μ : Mu} {w w' : World}
def exKI : List (Nat × (St → Prop)) → List KI
  | [] => []
  | (id, I) :: l => .inBlock id :: .stop I :: exKI l
theorem exKI_it : ∀ (l : List (Nat × (St → Prop))), (exKI l).map (KI.it P n) = exK l
  | [] => rfl
  | (id, I) :: l => by simp [exKI, exK, KI.it, exKI_it l]
theorem kont_exits {F : Fr} {e : Exit} {a : Act} (he : e ≠ .normal) : ∀ (l : List (Nat × (St → Prop))), Kont P F Q (exKI l) e a w →
    (e = .ret ∧ ∃ st, Q st ∧ SatF F st a w) ∨ ∃ id I, (id, I) ∈ l ∧ e = .exit id ∧ ∃ st, I st ∧ SatF F st a w
  | [], h => .inl ⟨h.1.resolve_left he, h.2⟩
  | (id, I) :: l, h => by
    have h : Exit.inBlock id (Kont P F Q (.stop I :: exKI l)) e a w := h
    have up : Kont P F Q (exKI l) e a w → _ := kont_exits he l
    have go : Kont P F Q (exKI l) e a w → (e = .ret ∧ ∃ st, Q st ∧ SatF F st a w) ∨ ∃ id' I', (id', I') ∈ (id, I) :: l ∧ e = .exit id' ∧ ∃ st, I' st ∧ SatF F st a w := fun h => by
      rcases up h with h | ⟨i, I', h1, h2⟩
      · exact .inl h
      · exact .inr ⟨i, I', by simp [h1], h2⟩
    cases e with
    | normal => exact absurd rfl he
    | exit j =>
      simp only [Exit.inBlock] at h
      by_cases hj : j = id
      · rw [if_pos hj] at h
        exact .inr ⟨id, I, by simp, by rw [hj], h⟩
      · rw [if_neg hj] at h
        exact go h
    | _ => exact go h
def jumpOf : Option Nat → Code
  | none => .ret
  | some id => .exit id
/-- one round, from the side of the iterator -/
theorem round_YC {rec : Loop} (hready : rec.state = .ready) (hpend : rec.pending = none) (htm : rec.tmps.size = n) {s : Nat → V} {idl : Nat} {x : List V} {σJ σ : Store}
    (hx : x.length = rec.params.toList.length) (hrow : σJ idl = some (gh (.loop rec) ((List.range n).map s))) (hsub : SubStore σJ σ)
    (Jn : Store → Prop) (exits : List Nat) (Jx : Option Nat → Store → Prop)
    (hb : Runs P n [.code (ccode P n rec.assign), .stop fun st1 => Runs P n (.code (ccode P n rec.body) :: .stop (fun st2 => ∃ σ2, Beside (del σJ idl) (del σ idl) σ2 st2.σ ∧ Jn σ2) ::
      exK (exits.map fun id => (id, fun st2 => ∃ σ2, Beside (del σJ idl) (del σ idl) σ2 st2.σ ∧ Jx (some id) σ2))) st1 (fun st2 => ∃ σ2, Beside (del σJ idl) (del σ idl) σ2 st2.σ ∧ Jx none σ2)]
      ⟨putL s rec.params.toList x, del σ idl⟩ (fun _ => False)) :
    YC P idl x σ fun b σ' => ∃ σJ', Beside σJ σ σJ' σ' ∧ ((b = true ∧ σJ' idl = some (gh (.loop rec) ((List.range n).map s)) ∧ Jn (del σJ' idl)) ∨
      (b = false ∧ ∃ e : Option Nat, σJ' idl = some (gh (.loop { rec with state := .done, pending := some (jumpOf e) }) ((List.range n).map s)) ∧ Jx e (del σJ' idl) ∧ ∀ id, e = some id → id ∈ exits)) := by
  intro μ3 w3 vals l c hid hsat hrep
  have hσ := hsub _ _ hrow
  obtain ⟨hl, henv⟩ := hsat.getG hσ hid
  have hvl : vals.length = rec.params.toList.length := by rw [← hx]; exact hrep.length
  have hy := run_yield (P := P) (args := vals.toArray) hl (by simpa using hvl)
  have hno : ¬ Owned μ3 (del σ idl) l := by
    rintro ⟨id, o, sz, cap, h1, h2⟩
    have := hsat.inj id idl o _ l sz cap 0 c (SubStore.of_del σ idl id o h1) hσ h2 hid
    subst this
    simp [del] at h1
  have hks : Keeps (Owned μ3 σ) (Owned μ3 (del σ idl)) w3 w3 := Keeps.sub w3 (SubStore.of_del σ idl)
  have hslots : ∀ i, i < n → Rep μ3 (Owned μ3 (del σ idl)) w3 (s i) (rec.tmps.getD i undef) := fun i hi => by
    have hv : ((List.range n).map s)[i]? = some (s i) := by simp [hi]
    obtain ⟨y, h1, h2⟩ := henv.get hv
    have : rec.tmps.getD i undef = y := by
      simp only [tmpsOf] at h1
      rw [Array.getD_eq_getD_getElem?, ← Array.getElem?_toList, h1]; rfl
    rw [this]
    exact Rep.mono (MuLe.refl _) hks (Nat.le_refl _) _ _ h2
  obtain ⟨hg1, hg2⟩ := foldl_get rec.params.toList vals rec.tmps x s n htm (RepAll.mono (MuLe.refl _) hks (Nat.le_refl _) _ _ hrep) hx hslots
  have hzip : (rec.params.zip vals.toArray).foldl (fun tmps (t, a) => tmps.setIfInBounds t a) rec.tmps = (rec.params.toList.zip vals).foldl (fun t (p, v) => t.setIfInBounds p v) rec.tmps := by
    rw [← Array.foldl_toList, Array.toList_zip]
  rw [hzip] at hy
  refine ⟨rec.fn, _, rec.assign, rec.body, hy, roundIn_of_wpIn (F := Fence.wide) trivial ?_⟩
  have hs1 : SatM ⟨w3, Owned μ3 σ, μ3, n, some (l, rec)⟩ μ3 ⟨putL s rec.params.toList x, del σ idl⟩ { tmps := (rec.params.toList.zip vals).foldl (fun t (p, v) => t.setIfInBounds p v) rec.tmps, defers := [] } w3 := by
    refine ⟨hsat.drop (SubStore.of_del σ idl), MuLe.refl _, hg1, ⟨fun l' r' e => ?_, [], rfl, .nil, by simp⟩, hg2⟩
    simp only [Option.some.injEq, Prod.mk.injEq] at e
    obtain ⟨rfl, rfl⟩ := e
    exact ⟨hl, hno⟩
  have h1 := hb ⟨w3, Owned μ3 σ, μ3, n, some (l, rec)⟩ rfl [.code rec.assign, .stop _] rfl _ w3 ⟨μ3, hs1⟩
  refine wpIn_mono (F := Fence.wide.inRound l) h1 ?_
  intro e a1 w1 h
  cases e with
  | normal =>
    obtain ⟨st1, hI, μ4, hs4⟩ := h
    have hpk := hs4.poke (F' := ⟨w3, Owned μ3 σ, μ3, n, some (l, { rec with state := .busy })⟩) (r' := { rec with state := .busy }) rfl rfl (fun _ => ⟨idl, _, 0, c, hσ, hid⟩)
    refine ⟨_, run_beginRound (hs4.book.rnd l rec rfl).1 hready, ?_⟩
    have h2 := hI ⟨w3, Owned μ3 σ, μ3, n, some (l, { rec with state := .busy })⟩ rfl (.code rec.body :: .stop _ :: exKI _) (by simp only [List.map_cons, exKI_it]; rfl) a1 _ ⟨μ4, hpk⟩
    refine wpIn_mono (F := Fence.wide.inRound l) h2 ?_
    have fin : ∀ (st2 : St) (a2 : Act) (w2 : World) (jump : Option Code) (σ2 : Store), SatF ⟨w3, Owned μ3 σ, μ3, n, some (l, { rec with state := .busy })⟩ st2 a2 w2 → Beside (del σJ idl) (del σ idl) σ2 st2.σ →
        ∃ v w'', (Instr.endRound l jump).run P w2 = .ok v w'' ∧ v = .bool jump.isNone ∧ ∃ σ' μ' σJ', MuLe μ3 μ' ∧ Sat w3 (Owned μ3 σ) μ' σ' w'' ∧ Beside σJ σ σJ' σ' ∧
          σJ' idl = some (gh (.loop { rec with state := if jump.isNone then .ready else .done, pending := jump }) ((List.range n).map s)) ∧ del σJ' idl = σ2 := by
      rintro st2 a2 w2 jump σ2 ⟨μ5, hs5⟩ hbs
      obtain ⟨q1, q2⟩ := hs5.book.rnd l _ rfl
      have hid5 : μ5 idl = .lies l 0 c := (hs5.le idl (show μ3 idl ≠ .unborn by rw [hid]; simp)).trans hid
      have hn5 : st2.σ idl = none := by
        cases h : st2.σ idl with
        | none => rfl
        | some o => exact absurd ⟨idl, o, 0, c, h, hid5⟩ q2
      have hk5 : Keeps (Owned μ3 σ) (Owned μ5 st2.σ) w3 w2 := fun b hb hn => ⟨fun ho => hn (hs5.sat.fresh b ho hb), hs5.sat.same b hb hn⟩
      have henv5 := RepAll.mono hs5.le hk5 hs5.sat.size _ _ henv
      have hn2 : σ2 idl = none := by
        cases h : σ2 idl with
        | none => rfl
        | some o => have := hbs.1 idl o h; rw [hn5] at this; cases this
      refine ⟨_, _, run_endRound (P := P) jump q1, rfl, upd st2.σ idl (gh (.loop { rec with state := if jump.isNone then .ready else .done, pending := jump }) ((List.range n).map s)), μ5,
        upd σ2 idl (gh (.loop { rec with state := if jump.isNone then .ready else .done, pending := jump }) ((List.range n).map s)), hs5.le, ?_, ⟨hbs.1.upd2, fun i o h1 h2 => ?_⟩, upd_same, del_upd hn2⟩
      · exact hs5.sat.regain hn5 hid5 q2 q1 (fun _ => ⟨idl, _, 0, c, hσ, hid⟩) _ _ henv5
      · have hne : i ≠ idl := fun e => by rw [e, hrow] at h1; cases h1
        obtain ⟨g1, g2⟩ := hbs.2 i o (by rw [del_ne hne]; exact h1) (by rw [del_ne hne]; exact h2)
        rw [upd_ne hne, upd_ne hne]
        exact ⟨g1, g2⟩
    intro e a2 w2 h
    cases e with
    | normal =>
      obtain ⟨st2, ⟨σ2, hbs, hj⟩, hs2⟩ := h
      obtain ⟨v, w'', g1, rfl, σ', μ', σJ', g2, g3, g4, g5, g6⟩ := fin st2 a2 w2 none σ2 hs2 hbs
      refine ⟨_, w'', g1, true, σ', μ', rfl, ⟨σJ', g4, .inl ⟨rfl, ?_, by rw [g6]; exact hj⟩⟩, g2, g3⟩
      rw [g5]
      have : ({ rec with state := .ready, pending := none } : Loop) = rec := by rw [← hready, ← hpend]
      simp [this]
    | ret =>
      rcases kont_exits (by simp) _ h with ⟨_, st2, ⟨σ2, hbs, hj⟩, hs2⟩ | ⟨_, _, _, h, _⟩
      · obtain ⟨v, w'', g1, rfl, σ', μ', σJ', g2, g3, g4, g5, g6⟩ := fin st2 a2 w2 (some .ret) σ2 hs2 hbs
        exact ⟨_, w'', g1, false, σ', μ', rfl, ⟨σJ', g4, .inr ⟨rfl, none, g5, by rw [g6]; exact hj, by simp⟩⟩, g2, g3⟩
      · cases h
    | exit id =>
      rcases kont_exits (by simp) _ h with ⟨h, _⟩ | ⟨id', I, hin, h, st2, hI2, hs2⟩
      · cases h
      · cases h
        simp only [List.mem_map, Prod.mk.injEq] at hin
        obtain ⟨id'', hin', rfl, rfl⟩ := hin
        obtain ⟨σ2, hbs, hj⟩ := hI2
        obtain ⟨v, w'', g1, rfl, σ', μ', σJ', g2, g3, g4, g5, g6⟩ := fin st2 a2 w2 (some (.exit id'')) σ2 hs2 hbs
        exact ⟨_, w'', g1, false, σ', μ', rfl, ⟨σJ', g4, .inr ⟨rfl, some id'', g5, by rw [g6]; exact hj, by simp [hin']⟩⟩, g2, g3⟩
    | goto t => rcases kont_exits (by simp) _ h with ⟨h, _⟩ | ⟨_, _, _, h, _⟩ <;> cases h
    | panic ch => rcases kont_exits (by simp) _ h with ⟨h, _⟩ | ⟨_, _, _, h, _⟩ <;> cases h
    | outgrown => rcases kont_exits (by simp) _ h with ⟨h, _⟩ | ⟨_, _, _, h, _⟩ <;> cases h
  | ret => exact h.2.choose_spec.1.elim
  | exit id => rcases h.1 with h | h <;> cases h
  | goto t => rcases h.1 with h | h <;> cases h
  | panic ch => rcases h.1 with h | h <;> cases h
  | outgrown => rcases h.1 with h | h <;> cases h
end Go.Vc
namespace Go.Vc
variable {P : Program} {n : Nat} {st : St} {Q : St → Prop} {k : List It} {μ : Mu} {w w' : World}
theorem run_rangeCall {a : Act} {g : Operand} {l : Nat} {f : FuncId} {cv : List Value} (h : a.eval g = .func (.func f) #[] ⟨cv⟩) :
    (resolve a.eval (rangeCall g l) 0).run P w = .ok { target := .fn (.func f) ⟨cv⟩, args := #[.func (.yield l) #[] #[]] } w := by
  simp only [resolve, h, Deferred.ofValue]
  simp [go_sem]
theorem Runs.rangeF {g : VX} {ps : List Nat} {A B : VCode} {gf : FuncId} {caps : List V} (hg : g.ev st.s = .fn gf caps) {xs : List (List V)} (hit : Iter P gf caps xs)
    (hlen : ∀ x ∈ xs, x.length = ps.length) (exits : List Nat) (J : List (List V) → Store → Prop) (Jx : Option Nat → List (List V) → Store → Prop) (h0 : J [] st.σ)
    (hbody : ∀ pre x post σJ σ, xs = pre ++ x :: post → J pre σJ → SubStore σJ σ →
      Runs P n [.code A, .stop fun st1 => Runs P n (.code B :: .stop (fun st2 => ∃ σ2, Beside σJ σ σ2 st2.σ ∧ J (pre ++ [x]) σ2) ::
        exK (exits.map fun id => (id, fun st2 => ∃ σ2, Beside σJ σ σ2 st2.σ ∧ Jx (some id) (pre ++ [x]) σ2))) st1 (fun st2 => ∃ σ2, Beside σJ σ σ2 st2.σ ∧ Jx none (pre ++ [x]) σ2)]
        ⟨putL st.s ps x, σ⟩ (fun _ => False))
    (hdone : ∀ σ', J xs σ' → Runs P n k ⟨st.s, σ'⟩ Q)
    (hexit : ∀ id ∈ exits, ∀ pre σ', pre <+: xs → Jx (some id) pre σ' → Runs P n (.code (.exit id) :: k) ⟨st.s, σ'⟩ Q)
    (hret : ∀ pre σ', pre <+: xs → Jx none pre σ' → Runs P n (.code .ret :: k) ⟨st.s, σ'⟩ Q) : Runs P n (.code (.rangeF g ps A B) :: k) st Q := by
  intro F hn kt hk a w hs
  subst hn
  obtain ⟨z, kt', rfl, hy, hk'⟩ := kt_cons hk
  obtain ⟨c0, rfl, hc⟩ := it_code hy
  have hc0 : ∃ g0 ps0 a0 b0, c0 = .rangeFunc g0 ps0 a0 b0 ∧ cx F.n g0 = g ∧ ps0.toList = ps ∧ ccode P F.n a0 = A ∧ ccode P F.n b0 = B := by
    cases c0 <;> simp only [ccode, reduceCtorEq, VCode.rangeF.injEq] at hc
    case region => split at hc <;> cases hc
    exact ⟨_, _, _, _, rfl, hc.1, hc.2.1, hc.2.2.1, hc.2.2.2⟩
  obtain ⟨g0, ps0, a0, b0, rfl, rfl, rfl, rfl, rfl⟩ := hc0
  obtain ⟨μ, hs⟩ := hs
  have hrg := rep_cx hs g0
  rw [hg] at hrg
  simp only [Rep] at hrg
  obtain ⟨cv, hgv, hcv⟩ := hrg
  refine wpIn_rangeFunc fun fn _ => ?_
  obtain ⟨mark, W0, D, hs0, hrun⟩ := hs.enter (P := P) fn ps0 a0 b0
  generalize hrec : ({ state := .ready, pending := none, fn, tmps := a.tmps, params := ps0, assign := a0, body := b0, defers := D } : Loop) = rec at hrun
  have hr1 : rec.state = .ready := by rw [← hrec]
  have hr2 : rec.pending = none := by rw [← hrec]
  have hr3 : rec.tmps = a.tmps := by rw [← hrec]
  have hr4 : rec.params = ps0 := by rw [← hrec]
  have hr5 : rec.assign = a0 := by rw [← hrec]
  have hr6 : rec.body = b0 := by rw [← hrec]
  have hszn : rec.tmps.size = F.n := by rw [hr3]; exact hs.size
  have henv : RepAll μ (Owned μ st.σ) W0 ((List.range F.n).map st.s) (tmpsOf (.loop rec)) := by
    have hl : tmpsOf (.loop rec) = (List.range F.n).map fun i => a.tmps.getD i undef := by
      simp only [tmpsOf, hr3]
      apply List.ext_getElem
      · simp [hs.size]
      · intro i h1 h2
        simp only [List.length_map, List.length_range] at h2
        simp only [Array.getElem_toList, List.getElem_map, List.getElem_range]
        rw [Array.getD_eq_getD_getElem?, Array.getElem?_eq_getElem (by rw [hs.size]; exact h2)]
        rfl
    rw [hl]
    have hall : ∀ l : List Nat, (∀ i ∈ l, i < F.n) → RepAll μ (Owned μ st.σ) W0 (l.map st.s) (l.map fun i => a.tmps.getD i undef) := by
      intro l
      induction l with
      | nil => intro _; simp [RepAll]
      | cons i l ih =>
        intro h
        simp only [List.map_cons, RepAll]
        exact ⟨_, _, rfl, hs0.slot i (h i (by simp)), ih fun j hj => h j (by simp [hj])⟩
    exact hall _ fun i hi => by simpa using hi
  obtain ⟨idl, hidn, μ1, hid1, hle1, hsat1, hk1⟩ := hs0.sat.newG (.loop rec) _ henv
  generalize hE : (List.range F.n).map st.s = env at *
  have hcvt : RepAll μ1 (Owned μ1 (upd st.σ idl (gh (.loop rec) env))) (W0.alloc (.loop rec)) caps cv := by
    have h1 : RepAll μ (Owned μ st.σ) W0 caps cv := by
      have h2 := rep_cx hs0 g0
      rw [hg] at h2
      simp only [Rep] at h2
      obtain ⟨cv', h3, h4⟩ := h2
      have : a.eval g0 = .func (.func gf) #[] ⟨cv'⟩ := h3
      rw [hgv] at this
      simp only [Value.func.injEq, Array.mk.injEq, true_and] at this
      rw [this]; exact h4
    exact RepAll.mono hle1 hk1 (by simp) _ _ h1
  obtain ⟨hcall, hiter⟩ := hit
  have key := hiter idl (fun pre σJ => σJ idl = some (gh (.loop rec) env) ∧ J pre (del σJ idl))
    (fun pre σJ => ∃ e : Option Nat, σJ idl = some (gh (.loop { rec with state := .done, pending := some (jumpOf e) }) env) ∧ Jx e pre (del σJ idl) ∧ ∀ id, e = some id → id ∈ exits)
    (upd st.σ idl (gh (.loop rec) env)) ?_ ⟨upd_same, by rw [del_upd hidn]; exact h0⟩
  · refine ⟨W0.heap.size, mark, _, _, _, gf, _, _, by rw [show F.fence.round = F.fence.round from rfl]; exact hrun, run_rangeCall hgv, fun _ _ => trivial,
      by simp only [invoke]; exact run_callFunc hcall _, fence_depth F, callsIn_fence ?_⟩
    have hargs : RepAll μ1 (Owned μ1 (upd st.σ idl (gh (.loop rec) env))) (W0.alloc (.loop rec)) (.yl idl :: caps) (.func (.yield W0.heap.size) #[] #[] :: cv) := by
      simp only [RepAll]
      exact ⟨_, _, rfl, by simp [Rep, hid1], hcvt⟩
    have hcl := key μ1 _ _ hsat1.here hargs
    have hvals : (Value.func (.yield W0.heap.size) #[] #[] :: cv).toArray = #[.func (.yield W0.heap.size) #[] #[]] ++ ⟨cv⟩ := by
      apply Array.ext'; simp
    rw [hvals] at hcl
    refine hcl.mono ?_
    rintro e w2 ⟨r, σ', μ', val, rfl, hp, hle2, hs2, -⟩
    obtain ⟨hs3, hk3⟩ := hsat1.compose hs2
    have hid2 : μ' idl = .lies W0.heap.size 0 0 := (hle2 idl (by rw [hid1]; simp)).trans hid1
    -- the end of the loop, whatever the record
    have fin : ∀ (rec2 : Loop), σ' idl = some (gh (.loop rec2) env) → rec2.state ≠ .busy → ∃ w4, (Instr.endLoop W0.heap.size).run P w2 = .ok rec2.pending w4 ∧
        SatF F ⟨st.s, del σ' idl⟩ { a with defers := mark ++ a.defers } w4 := by
      intro rec2 hrow hst
      obtain ⟨hl2, henv2⟩ := hs2.getG hrow hid2
      refine ⟨_, run_endLoop hl2 hst, μ', ?_⟩
      have hset := hs3.setG hrow hid2 (.loop { rec2 with state := .exhausted }) env henv2
      have hsub : SubStore (del σ' idl) (upd σ' idl (gh (.loop { rec2 with state := .exhausted }) env)) := fun i o h => by
        unfold del at h
        split at h
        · cases h
        · rename_i hi; rw [upd_ne hi]; exact h
      have hks := Keeps.sub (μ := μ') (w2.putObj W0.heap.size (.loop { rec2 with state := .exhausted })) hsub
      have hsz2 := hs2.size
      have hkall : Keeps (Owned μ st.σ) (Owned μ' (del σ' idl)) W0 (w2.putObj W0.heap.size (.loop { rec2 with state := .exhausted })) := fun b hb hn => by
        obtain ⟨q1, q2⟩ := hk1 b hb hn
        have hb1 : b < (W0.alloc (.loop rec)).heap.size := by simp; omega
        obtain ⟨q3, q4⟩ := hk3 b hb1 q1
        have hb2 : b < w2.heap.size := Nat.lt_of_lt_of_le hb1 hsz2
        obtain ⟨q5, q6⟩ := hset.2 b hb2 q3
        exact ⟨fun ho => q5 (ho.sub hsub), q6.trans (q4.trans q2)⟩
      have hle3 : MuLe μ μ' := hle1.trans hle2
      have hz : W0.heap.size ≤ (w2.putObj W0.heap.size (.loop { rec2 with state := .exhausted })).heap.size := by
        simp at hsz2 ⊢; omega
      exact ⟨hset.1.drop hsub, hs0.le.trans hle3, hs0.size, hs0.book.keep hkall, fun i hi => Rep.mono hle3 hkall hz _ _ (hs0.slot i hi)⟩
    rcases hp with ⟨hrow, hj⟩ | ⟨pre, hpre, e, hrow, hj, hin⟩
    · obtain ⟨w4, g1, g2⟩ := fin rec hrow (by rw [hr1]; simp)
      refine ⟨_, w4, g1, ?_⟩
      rw [hr2]
      exact hdone _ hj F rfl kt' hk' _ _ g2
    · obtain ⟨w4, g1, g2⟩ := fin _ hrow (by simp)
      refine ⟨_, w4, g1, ?_⟩
      cases e with
      | none => exact hret pre _ hpre hj F rfl (.code .ret :: kt') (by simp [KI.it, hk', ccode]) _ _ g2
      | some id => exact hexit id (hin id rfl) pre _ hpre hj F rfl (.code (.exit id) :: kt') (by simp [KI.it, hk', ccode]) _ _ g2
  · intro pre x post σJ σ hxs hJ hsub
    have hx : x.length = rec.params.toList.length := by rw [hr4]; exact hlen x (by rw [hxs]; simp)
    have hb := hbody pre x post (del σJ idl) (del σ idl) hxs hJ.2 (del_sub hsub)
    subst hE
    refine round_YC hr1 hr2 hszn hx hJ.1 hsub (J (pre ++ [x])) exits (fun e => Jx e (pre ++ [x])) ?_
    rw [hr4, hr5, hr6]
    exact hb
end Go.Vc
namespace Go.Vc
variable {P : Program} {n : Nat} {st : St} {Q : St → Prop} {k : List It}
/-- what may come next -/
def readyV (deps : List (List Nat)) (listed : List Nat) : List Nat := (List.range deps.length).filter fun i => !listed.contains i && (deps.getD i []).all listed.contains
def allV (P : Program) (l : List VIns) (rec : List Nat → St → Prop) (listed : List Nat) (x : St) : List Nat → Prop
  | [] => True
  | i :: is => (match l[i]? with
      | some ins => T P ins x (rec (i :: listed))
      | none => False) ∧ allV P l rec listed x is
/-- all orders -/
def anyV (P : Program) (l : List VIns) (deps : List (List Nat)) (Q : St → Prop) : Nat → List Nat → St → Prop
  | 0, listed, x => readyV deps listed = [] ∧ Q x
  | f + 1, listed, x => match readyV deps listed with
      | [] => Q x
      | i :: is => allV P l (anyV P l deps Q f) listed x (i :: is)
theorem allV_mem {l : List VIns} {rec : List Nat → St → Prop} {listed : List Nat} {x : St} : ∀ {is : List Nat}, allV P l rec listed x is → ∀ i ∈ is, ∃ ins, l[i]? = some ins ∧ T P ins x (rec (i :: listed))
  | [], _, _, hi => by cases hi
  | j :: is, h, i, hi => by
    obtain ⟨h1, h2⟩ := h
    rcases List.mem_cons.1 hi with rfl | hi
    · cases hl : l[i]? with
      | none => rw [hl] at h1; exact h1.elim
      | some ins => rw [hl] at h1; exact ⟨ins, rfl, h1⟩
    · exact allV_mem h2 i hi
abbrev depsOf (ops : Array Oper) : List (List Nat) := ops.toList.map fun o => (o.after.toList.filter (Region.binds .any)).map (·.on)
theorem readyV_eq {ops : Array Oper} {arr : Array Bool} {listed : List Nat} (hs : arr.size = ops.size) (hl : ∀ i, i < ops.size → arr.getD i true = listed.contains i)
    (ho : ∀ i ∈ listed, i < ops.size) : Region.ready .any ops arr = readyV (depsOf ops) listed := by
  unfold Region.ready readyV
  have hlen : (depsOf ops).length = ops.size := by simp [depsOf]
  rw [hlen]
  refine List.filter_congr fun i hi => ?_
  have hi : i < ops.size := by simpa using hi
  rw [hl i hi]
  congr 1
  have h1 : ops[i]? = some ops[i] := Array.getElem?_eq_getElem hi
  have h2 : (depsOf ops).getD i [] = (ops[i].after.toList.filter (Region.binds .any)).map (·.on) := by
    rw [List.getD_eq_getElem?_getD]
    simp [depsOf, hi]
  rw [h1, h2]
  simp only [Option.map_some, Option.getD_some]
  rw [← Array.all_toList, List.all_map, List.all_filter]
  congr 1
  funext e
  simp only [Function.comp]
  have h3 : arr.getD e.on false = listed.contains e.on := by
    by_cases he : e.on < ops.size
    · rw [← hl _ he, Array.getD_eq_getD_getElem?, Array.getD_eq_getD_getElem?, Array.getElem?_eq_getElem (by omega)]
      rfl
    · rw [Array.getD_eq_getD_getElem?, Array.getElem?_eq_none (by omega)]
      simp only [Option.getD_none]
      symm
      rw [Bool.eq_false_iff]
      intro hc
      exact he (ho _ (by simpa using hc))
  rw [h3]
theorem wpAnyT_of_anyV {ops : Array Oper} {Q : St → Prop} : ∀ (f : Nat) (arr : Array Bool) (listed : List Nat) (x : St), arr.size = ops.size → (∀ i, i < ops.size → arr.getD i true = listed.contains i) →
    (∀ i ∈ listed, i < ops.size) → anyV P (ops.toList.map (cins P n ops)) (depsOf ops) Q f listed x → wpAnyT P n ops Q f arr x
  | 0, arr, listed, x, hs, hl, ho, h => ⟨by rw [readyV_eq hs hl ho]; exact h.1, h.2⟩
  | f + 1, arr, listed, x, hs, hl, ho, h => by
    have hr := readyV_eq hs hl ho
    unfold anyV at h
    refine ⟨fun h0 => ?_, fun i hi => ?_⟩
    · rw [hr] at h0
      rw [h0] at h
      exact h
    · rw [hr] at hi
      have hlt : i < ops.size := by
        have := (List.mem_filter.1 hi).1
        simpa [depsOf] using this
      have hall : allV P (ops.toList.map (cins P n ops)) (anyV P (ops.toList.map (cins P n ops)) (depsOf ops) Q f) listed x (readyV (depsOf ops) listed) := by
        cases hrr : readyV (depsOf ops) listed with
        | nil => exact trivial
        | cons j js => rw [hrr] at h; exact h
      obtain ⟨ins, h1, h2⟩ := allV_mem hall i hi
      have h3 : ops[i]? = some ops[i] := Array.getElem?_eq_getElem hlt
      have h4 : ins = cins P n ops ops[i] := by simpa [hlt] using h1.symm
      unfold Tn
      simp only [h3]
      rw [← h4]
      refine h2.mono fun x' hx' => wpAnyT_of_anyV f _ (i :: listed) x' (by simpa using hs) (fun j hj => ?_) (fun j hj => ?_) hx'
      · by_cases e : j = i
        · subst e
          rw [Array.getD_eq_getD_getElem?, Array.getElem?_setIfInBounds_self_of_lt (by omega)]
          simp
        · rw [Array.getD_eq_getD_getElem?, Array.getElem?_setIfInBounds_ne (fun e' => e e'.symm), ← Array.getD_eq_getD_getElem?, hl j hj]
          simp [e]
      · rcases List.mem_cons.1 hj with rfl | hj
        · exact hlt
        · exact ho j hj
theorem Runs.regA (hm : P.follows .mixedOrders = true) {l : List VIns} {deps : List (List Nat)} (h : anyV P l deps (fun x => Runs P n k x Q) l.length [] st) : Runs P n (.code (.regA l deps) :: k) st Q := by
  intro F hn kt hk a w hs
  obtain ⟨z, kt', rfl, hy, hk'⟩ := kt_cons hk
  obtain ⟨c0, rfl, hcc⟩ := it_code hy
  have hc0 : ∃ id ops, c0 = .region id ops true ∧ ops.toList.map (cins P n ops) = l ∧ depsOf ops = deps := by
    cases c0 <;> simp only [ccode, reduceCtorEq] at hcc
    rename_i id ops draw
    cases draw
    · simp at hcc
    · simp only [Bool.true_and] at hcc
      split at hcc
      · simp only [VCode.regA.injEq] at hcc
        exact ⟨id, ops, rfl, hcc.1, hcc.2⟩
      · simp at hcc
  obtain ⟨id, ops, rfl, rfl, rfl⟩ := hc0
  have hs' : SatF F st a { w with drawn := w.drawn + 1 } := by
    obtain ⟨μ, hs⟩ := hs
    have hk : Keeps (Owned μ st.σ) (Owned μ st.σ) w { w with drawn := w.drawn + 1 } := fun _ _ h => ⟨h, rfl⟩
    refine ⟨μ, ⟨⟨hs.sat.size, hs.sat.os, hs.sat.tape, hs.sat.output, hs.sat.same, hs.sat.fin, hs.sat.inj, fun id o ho => ?_, hs.sat.fresh⟩, hs.le, hs.size, hs.book.keep hk, fun i hi => ?_⟩⟩
    · exact (hs.sat.obj id o ho).mono (MuLe.refl μ) hk (Nat.le_refl _) (fun _ _ _ _ => rfl)
    · exact Rep.mono (MuLe.refl μ) hk (Nat.le_refl _) _ _ (hs.slot i hi)
  refine wpIn_region_any hm (wpAny_of_T (Q := fun x => Runs P n k x Q) hn (fun x a w hs h => h F hn kt' hk' a w hs) _ _ _ _ _ hs' ?_)
  have := wpAnyT_of_anyV (P := P) (n := n) (Q := fun x => Runs P n k x Q) (ops := ops) ops.size (Array.replicate ops.size false) [] st (by simp) (fun i hi => by
    rw [Array.getD_eq_getD_getElem?, Array.getElem?_replicate, if_pos hi]; simp) (by simp) (by simpa using h)
  exact this
end Go.Vc
namespace Go.Vc
theorem SubStore.delK {σ0 σ : Store} {e : Nat} (h : SubStore σ0 σ) (he : σ0 e = Option.none) : SubStore σ0 (del σ e) := fun i x hx => by
  have hne : i ≠ e := fun e' => by rw [e', he] at hx; cases hx
  rw [del_ne hne]
  exact h i x hx
theorem Wk.nils {σ σ' : Store} (sz : Nat) : Wk σ σ' .nils (.sl sz []) := by
  intro μ w0 w ow0 x hs hr
  simp only [Rep] at hr ⊢
  exact ⟨none, 0, by simpa using hr, by simp, .inl trivial⟩
/-- a row that is made, or none yet -/
def OutV (K σ : Store) (e sz : Nat) (v : V) (rows : List V) : Prop := (v = .nils ∧ rows = []) ∨ ∃ id, v = .own id 0 rows.length ∧ σ id = some ⟨e, sz, rows⟩ ∧ K id = none
/-- what is appended to -/
theorem OutV.dst {K σ : Store} {e sz : Nat} {v : V} {rows : List V} (h : OutV K σ e sz v rows) {σ1 : Store} (hs : SubStore σ σ1) :
    ∃ idA, dstRows σ1 e sz v = some (rows, idA) ∧ ∀ K' : Store, SubStore K' K → ∀ σ2, SubStore K' σ2 → SubStore K' (delO σ2 idA) := by
  rcases h with ⟨rfl, rfl⟩ | ⟨id, rfl, ho, hk⟩
  · exact ⟨none, rfl, fun _ _ _ h => h⟩
  · refine ⟨some id, ?_, fun K' hK σ2 h => h.delK (hK.none hk)⟩
    simp only [dstRows, hs _ _ ho]
    rw [if_pos ⟨trivial, trivial, trivial, Nat.le_refl _⟩, List.take_length]
theorem OutV.start {K σ : Store} {e sz : Nat} : OutV K σ e sz .nils [] := .inl ⟨rfl, rfl⟩
theorem OutV.new {K σ : Store} {e sz id : Nat} {rows : List V} {n : Nat} (hn : n = rows.length) (h : σ id = some ⟨e, sz, rows⟩) (hk : K id = none) : OutV K σ e sz (.own id 0 n) rows := by
  subst hn; exact .inr ⟨id, rfl, h, hk⟩
theorem OutV.len {K σ : Store} {e sz : Nat} {v : V} {rows : List V} (h : OutV K σ e sz v rows) : lenV false v = some (.int .i64 rows.length) := by
  rcases h with ⟨rfl, rfl⟩ | ⟨id, rfl, ho, hk⟩ <;> rfl
theorem OutV.mono {K σ σ' : Store} {e sz : Nat} {v : V} {rows : List V} (h : OutV K σ e sz v rows) (hs : SubStore σ σ') : OutV K σ' e sz v rows := by
  rcases h with h | ⟨id, h1, h2, h3⟩
  · exact .inl h
  · exact .inr ⟨id, h1, hs _ _ h2, h3⟩
/-- what is kept, and a row that is new -/
theorem srcOne {σ : Store} {id e sz : Nat} {r : V} (h : σ id = some ⟨e, sz, [r]⟩) : srcRows σ sz (.own id 0 1) = some [r] := by
  simp [srcRows, h]
/-- a pointer to a row that is given away -/
theorem Wk.ptr {σ σ' : Store} (h : SubStore σ' σ) {id : Nat} {e sz : Nat} {r : V} (ho : σ id = some ⟨e, sz, [r]⟩) (hid : σ' id = none) : Wk σ σ' (.ptr id 0 0) (.rp r) := by
  intro μ w0 w ow0 x hs hr
  simp only [Rep] at hr ⊢
  have hob := hs.obj id _ ho
  split at hr
  · rename_i b sz' cap hb
    obtain ⟨rfl, hz⟩ := hr
    rw [hb] at hob
    have hlt : b < w.heap.size := Owned.lt hs ⟨id, _, _, _, ho, hb⟩
    obtain ⟨g1, g2, g3, g4, g5⟩ := hob.rows hz
    refine ⟨b, _, rfl, hlt, .inr ?_, ?_⟩
    · rintro ⟨id', ob', sz'', cap'', e1, e2⟩
      have := hs.inj id' id ob' _ _ _ _ _ _ (h _ _ e1) ho e2 hb
      rw [this, hid] at e1
      cases e1
    · simp only [RepRows] at g5
      have := RepRows.mono (MuLe.refl μ) (Keeps.sub w h) (Nat.le_refl _) [r] b 0 sz' rfl (by simp only [RepRows]; exact ⟨g5.1, g5.2.1, trivial⟩)
      simp only [RepRows] at this
      simpa using this.2.1
  · exact hr.elim
theorem Wk.fn {σ σ' : Store} {f : FuncId} {vs vs' : List V} (h : WkL σ σ' vs vs') : Wk σ σ' (.fn f vs) (.fn f vs') := by
  intro μ w0 w ow0 x hs hr
  simp only [Rep] at hr ⊢
  obtain ⟨vals, rfl, h1⟩ := hr
  exact ⟨vals, rfl, WkL.all hs h h1⟩
theorem V.cells_agg (vs : List V) : V.cells (.agg vs) = vs := rfl
theorem V.cells_int (k : IntKind) (i : Int) : V.cells (.int k i) = [.int k i] := rfl
theorem V.cells_nils : V.cells .nils = [.nils] := rfl
theorem V.cells_own (a b c : Nat) : V.cells (.own a b c) = [.own a b c] := rfl
theorem V.cells_sl (a : Nat) (b : List V) : V.cells (.sl a b) = [.sl a b] := rfl
theorem V.cells_str (a : List UInt8) : V.cells (.str a) = [.str a] := rfl
theorem V.cells_bool (a : Bool) : V.cells (.bool a) = [.bool a] := rfl
theorem V.cells_fn (a : FuncId) (b : List V) : V.cells (.fn a b) = [.fn a b] := rfl
theorem V.cells_ptr (a b c : Nat) : V.cells (.ptr a b c) = [.ptr a b c] := rfl
theorem V.cells_rp (a : V) : V.cells (.rp a) = [.rp a] := rfl
theorem V.stays_agg (vs : List V) : V.stays (.agg vs) = true := rfl
theorem V.stays_int (k : IntKind) (i : Int) : V.stays (.int k i) = true := rfl
theorem V.stays_nils : V.stays .nils = true := rfl
theorem V.stays_own (a b c : Nat) : V.stays (.own a b c) = true := rfl
theorem V.stays_sl (a : Nat) (b : List V) : V.stays (.sl a b) = true := rfl
theorem V.stays_str (a : List UInt8) : V.stays (.str a) = true := rfl
theorem V.stays_bool (a : Bool) : V.stays (.bool a) = true := rfl
theorem V.stays_fn (a : FuncId) (b : List V) : V.stays (.fn a b) = true := rfl
theorem V.stays_ptr (a b c : Nat) : V.stays (.ptr a b c) = true := rfl
theorem V.stays_rp (a : V) : V.stays (.rp a) = true := rfl
end Go.Vc
namespace Go.Vc
open Go.Proofs
def c3 : VFn := ⟨65, (.seq (.reg .false [⟨(.some 2), (.mov (.c (.bool .false))), .none⟩]) (.seq (.seq (.reg .false [⟨(.some 13), (.mov (.t 0)), .none⟩, ⟨(.some 14), (.len .true (.t 13)), .none⟩, ⟨(.some 15), (.bin .gtr (.t 14) (.c (.int .i64 5000))), .none⟩]) (.cond (.t 15) (.seq (.reg .false [⟨(.some 16), (.call (.c (.fn 6 [])) []), .none⟩, ⟨(.some 2), (.mov (.t 16)), .none⟩]) .ret) .skip)) (.seq (.reg .false [⟨(.some 18), (.mov (.t 0)), .none⟩, ⟨(.some 19), (.call (.c (.fn 7 [])) [(.t 18)]), .none⟩, ⟨(.some 17), (.mov (.t 19)), .none⟩, ⟨(.some 20), (.ext 0 (.t 17)), .none⟩, ⟨(.some 21), (.ext 1 (.t 17)), .none⟩, ⟨(.some 22), (.ext 2 (.t 17)), .none⟩, ⟨(.some 3), (.mov (.t 20)), .none⟩, ⟨(.some 4), (.mov (.t 21)), .none⟩, ⟨(.some 5), (.mov (.t 22)), .none⟩]) (.seq (.reg .false [⟨(.some 24), (.mov (.t 0)), .none⟩, ⟨(.some 25), (.call (.c (.fn 8 [])) [(.t 24)]), .none⟩, ⟨(.some 23), (.mov (.t 25)), .none⟩, ⟨(.some 26), (.ext 0 (.t 23)), .none⟩, ⟨(.some 27), (.ext 1 (.t 23)), .none⟩, ⟨(.some 28), (.ext 2 (.t 23)), .none⟩, ⟨(.some 6), (.mov (.t 26)), .none⟩, ⟨(.some 7), (.mov (.t 27)), .none⟩, ⟨(.some 8), (.mov (.t 28)), .none⟩]) (.seq (.reg .false [⟨(.some 30), (.mov (.t 0)), .none⟩, ⟨(.some 31), (.call (.c (.fn 9 [])) [(.t 30)]), .none⟩, ⟨(.some 29), (.mov (.t 31)), .none⟩, ⟨(.some 32), (.ext 0 (.t 29)), .none⟩, ⟨(.some 33), (.ext 1 (.t 29)), .none⟩, ⟨(.some 9), (.mov (.t 32)), .none⟩, ⟨(.some 10), (.mov (.t 33)), .none⟩]) (.seq (.reg .false [⟨(.some 35), (.mov (.t 0)), .none⟩, ⟨(.some 36), (.call (.c (.fn 10 [])) [(.t 35)]), .none⟩, ⟨(.some 34), (.mov (.t 36)), .none⟩, ⟨(.some 37), (.ext 0 (.t 34)), .none⟩, ⟨(.some 38), (.ext 1 (.t 34)), .none⟩, ⟨(.some 11), (.mov (.t 37)), .none⟩, ⟨(.some 12), (.mov (.t 38)), .none⟩]) (.seq (.reg .false [⟨(.some 39), (.mov (.t 3)), .none⟩, ⟨(.some 40), (.mov (.t 6)), .none⟩, ⟨(.some 41), (.call (.c (.fn 11 [])) [(.t 39), (.t 40)]), .none⟩, ⟨(.some 42), (.mov (.t 41)), .none⟩, ⟨(.some 43), (.mov (.t 4)), (.some ((.t 42), .true))⟩, ⟨(.some 44), (.mov (.t 7)), (.some ((.t 42), .true))⟩, ⟨(.some 45), (.bin .eql (.t 43) (.t 44)), (.some ((.t 42), .true))⟩, ⟨(.some 46), (.pick (.t 42) (.t 45) (.c (.bool .false))), .none⟩, ⟨(.some 47), (.mov (.t 46)), .none⟩, ⟨(.some 48), (.mov (.t 5)), (.some ((.t 47), .true))⟩, ⟨(.some 49), (.mov (.t 8)), (.some ((.t 47), .true))⟩, ⟨(.some 50), (.bin .eql (.t 48) (.t 49)), (.some ((.t 47), .true))⟩, ⟨(.some 51), (.pick (.t 47) (.t 50) (.c (.bool .false))), .none⟩, ⟨(.some 52), (.mov (.t 51)), .none⟩, ⟨(.some 53), (.mov (.t 9)), (.some ((.t 52), .true))⟩, ⟨(.some 54), (.mov (.t 11)), (.some ((.t 52), .true))⟩, ⟨(.some 55), (.bin .eql (.t 53) (.t 54)), (.some ((.t 52), .true))⟩, ⟨(.some 56), (.pick (.t 52) (.t 55) (.c (.bool .false))), .none⟩, ⟨(.some 57), (.mov (.t 56)), .none⟩, ⟨(.some 58), (.mov (.t 10)), (.some ((.t 57), .true))⟩, ⟨(.some 59), (.mov (.t 12)), (.some ((.t 57), .true))⟩, ⟨(.some 60), (.binB .false (.t 58) (.t 59)), (.some ((.t 57), .true))⟩, ⟨(.some 61), (.pick (.t 57) (.t 60) (.c (.bool .false))), .none⟩, ⟨(.some 62), (.mov (.t 61)), .none⟩, ⟨(.some 63), (.call (.c (.fn 6 [])) []), (.some ((.t 62), .true))⟩, ⟨(.some 64), (.pick (.t 62) (.t 63) (.c (.bool .false))), .none⟩, ⟨(.some 2), (.mov (.t 64)), .none⟩]) .ret))))))), [(.tmp (.t 2))]⟩
theorem e3 : cfn Tryd.prog Tryd.f3 = some c3 := by kernel_rfl
theorem k3 : callable Tryd.prog 3 = true := by kernel_rfl
def c4 : VFn := ⟨132, (.seq (.reg .false [⟨(.some 2), (.mov (.c (.bool .false))), .none⟩]) (.seq (.seq (.reg .false [⟨(.some 10), (.mov (.t 0)), .none⟩, ⟨(.some 11), (.len .true (.t 10)), .none⟩, ⟨(.some 12), (.bin .gtr (.t 11) (.c (.int .i64 5000))), .none⟩]) (.cond (.t 12) (.seq (.reg .false [⟨(.some 13), (.call (.c (.fn 6 [])) []), .none⟩, ⟨(.some 2), (.mov (.t 13)), .none⟩]) .ret) .skip)) (.seq (.reg .false [⟨(.some 15), (.mov (.t 0)), .none⟩, ⟨(.some 16), (.call (.c (.fn 7 [])) [(.t 15)]), .none⟩, ⟨(.some 14), (.mov (.t 16)), .none⟩, ⟨(.some 17), (.ext 0 (.t 14)), .none⟩, ⟨(.some 18), (.ext 1 (.t 14)), .none⟩, ⟨(.some 19), (.ext 2 (.t 14)), .none⟩, ⟨(.some 3), (.mov (.t 17)), .none⟩, ⟨(.some 4), (.mov (.t 18)), .none⟩, ⟨(.some 5), (.mov (.t 19)), .none⟩]) (.seq (.seq (.reg .false [⟨(.some 20), (.mov (.t 5)), .none⟩, ⟨(.some 21), (.bin .neq (.t 20) (.c (.int .i64 0))), .none⟩]) (.cond (.t 21) (.seq (.reg .false [⟨(.some 22), (.mov (.t 3)), .none⟩, ⟨(.some 23), (.len .false (.t 22)), .none⟩, ⟨(.some 24), (.bin .eql (.t 23) (.c (.int .i64 0))), .none⟩, ⟨(.some 25), (.mov (.t 24)), .none⟩, ⟨(.some 26), (.mov (.t 5)), (.some ((.t 25), .true))⟩, ⟨(.some 27), (.bin .eql (.t 26) (.c (.int .i64 1))), (.some ((.t 25), .true))⟩, ⟨(.some 28), (.pick (.t 25) (.t 27) (.c (.bool .false))), .none⟩, ⟨(.some 29), (.mov (.t 28)), .none⟩, ⟨(.some 30), (.mov (.t 4)), (.some ((.t 29), .true))⟩, ⟨(.some 31), (.bin .geq (.t 30) (.c (.int .i64 0))), (.some ((.t 29), .true))⟩, ⟨(.some 32), (.pick (.t 29) (.t 31) (.c (.bool .false))), .none⟩, ⟨(.some 33), (.mov (.t 32)), .none⟩, ⟨(.some 34), (.mov (.t 4)), (.some ((.t 33), .true))⟩, ⟨(.some 35), (.mov (.t 0)), (.some ((.t 33), .true))⟩, ⟨(.some 36), (.len .true (.t 35)), (.some ((.t 33), .true))⟩, ⟨(.some 37), (.bin .lss (.t 34) (.t 36)), (.some ((.t 33), .true))⟩, ⟨(.some 38), (.pick (.t 33) (.t 37) (.c (.bool .false))), .none⟩, ⟨(.some 39), (.mov (.t 38)), .none⟩, ⟨(.some 40), (.call (.c (.fn 6 [])) []), (.some ((.t 39), .true))⟩, ⟨(.some 41), (.pick (.t 39) (.t 40) (.c (.bool .false))), .none⟩, ⟨(.some 2), (.mov (.t 41)), .none⟩]) .ret) .skip)) (.seq (.reg .false [⟨(.some 6), (.mov (.c (.int .i64 0))), .none⟩]) (.seq (.seq (.reg .false [⟨(.some 7), (.mov (.c (.int .i64 0))), .none⟩]) (.block 0 (.loop (.seq (.seq (.reg .false [⟨(.some 42), (.mov (.t 7)), .none⟩, ⟨(.some 43), (.mov (.t 3)), .none⟩, ⟨(.some 44), (.len .false (.t 43)), .none⟩, ⟨(.some 45), (.bin .lss (.t 42) (.t 44)), .none⟩]) (.cond (.t 45) .skip (.exit 0))) (.seq (.block 1 (.seq (.reg .false [⟨(.some 48), (.mov (.t 3)), .none⟩, ⟨(.some 49), (.mov (.t 7)), .none⟩, ⟨(.some 50), (.idxA 4 (.t 48) (.t 49)), .none⟩, ⟨(.some 51), (.load .true 4 (.t 50)), .none⟩, ⟨(.some 8), (.alloc 32 4 (.agg [(.int .i64 0), (.int .i32 0), (.int .i64 0), (.int .i64 0)])), .none⟩, ⟨.none, (.store 4 (.t 8) (.t 51)), .none⟩]) (.seq (.seq (.reg .false [⟨(.some 52), (.fldA .false 3 1 (.t 8)), .none⟩, ⟨(.some 53), (.load .false 1 (.t 52)), .none⟩, ⟨(.some 54), (.mov (.t 6)), .none⟩, ⟨(.some 55), (.bin .lss (.t 53) (.t 54)), .none⟩, ⟨(.some 56), (.mov (.t 55)), .none⟩, ⟨(.some 57), (.fldA .false 3 1 (.t 8)), (.some ((.t 56), .false))⟩, ⟨(.some 58), (.load .false 1 (.t 57)), (.some ((.t 56), .false))⟩, ⟨(.some 59), (.mov (.t 0)), (.some ((.t 56), .false))⟩, ⟨(.some 60), (.len .true (.t 59)), (.some ((.t 56), .false))⟩, ⟨(.some 61), (.bin .geq (.t 58) (.t 60)), (.some ((.t 56), .false))⟩, ⟨(.some 62), (.pick (.t 56) (.c (.bool .true)) (.t 61)), .none⟩, ⟨(.some 63), (.mov (.t 62)), .none⟩, ⟨(.some 64), (.mov (.t 0)), (.some ((.t 63), .false))⟩, ⟨(.some 65), (.mov (.t 6)), (.some ((.t 63), .false))⟩, ⟨(.some 66), (.fldA .false 3 1 (.t 8)), (.some ((.t 63), .false))⟩, ⟨(.some 67), (.load .false 1 (.t 66)), (.some ((.t 63), .false))⟩, ⟨(.some 68), (.sliceS (.t 64) (.some (.t 65)) (.some (.t 67))), (.some ((.t 63), .false))⟩, ⟨(.some 69), (.call (.c (.fn 12 [])) [(.t 68)]), (.some ((.t 63), .false))⟩, ⟨(.some 70), (.not (.t 69)), (.some ((.t 63), .false))⟩, ⟨(.some 71), (.pick (.t 63) (.c (.bool .true)) (.t 70)), .none⟩, ⟨(.some 72), (.mov (.t 71)), .none⟩, ⟨(.some 73), (.fldA .false 0 1 (.t 8)), (.some ((.t 72), .false))⟩, ⟨(.some 74), (.load .false 1 (.t 73)), (.some ((.t 72), .false))⟩, ⟨(.some 75), (.bin .neq (.t 74) (.c (.int .i64 1))), (.some ((.t 72), .false))⟩, ⟨(.some 76), (.mov (.t 75)), (.some ((.t 72), .false))⟩, ⟨(.some 77), (.fldA .false 0 1 (.t 8)), (.some ((.t 76), .true))⟩, ⟨(.some 78), (.load .false 1 (.t 77)), (.some ((.t 76), .true))⟩, ⟨(.some 79), (.bin .neq (.t 78) (.c (.int .i64 2))), (.some ((.t 76), .true))⟩, ⟨(.some 80), (.pick (.t 76) (.t 79) (.c (.bool .false))), (.some ((.t 72), .false))⟩, ⟨(.some 81), (.pick (.t 72) (.c (.bool .true)) (.t 80)), .none⟩, ⟨(.some 82), (.mov (.t 81)), .none⟩, ⟨(.some 83), (.fldA .false 2 1 (.t 8)), (.some ((.t 82), .false))⟩, ⟨(.some 84), (.load .false 1 (.t 83)), (.some ((.t 82), .false))⟩, ⟨(.some 85), (.bin .lss (.t 84) (.c (.int .i64 0))), (.some ((.t 82), .false))⟩, ⟨(.some 86), (.pick (.t 82) (.c (.bool .true)) (.t 85)), .none⟩, ⟨(.some 87), (.mov (.t 86)), .none⟩, ⟨(.some 88), (.fldA .false 2 1 (.t 8)), (.some ((.t 87), .false))⟩, ⟨(.some 89), (.load .false 1 (.t 88)), (.some ((.t 87), .false))⟩, ⟨(.some 90), (.bin .gtr (.t 89) (.c (.int .i64 1099511627776))), (.some ((.t 87), .false))⟩, ⟨(.some 91), (.pick (.t 87) (.c (.bool .true)) (.t 90)), .none⟩]) (.cond (.t 91) (.seq (.reg .false [⟨(.some 2), (.mov (.c (.bool .false))), .none⟩]) .ret) .skip)) (.seq (.reg .false [⟨(.some 92), (.mov (.t 0)), .none⟩, ⟨(.some 93), (.load .true 4 (.t 8)), .none⟩, ⟨(.some 94), (.call (.c (.fn 13 [])) [(.t 92), (.t 93)]), .none⟩, ⟨(.some 9), (.mov (.t 94)), .none⟩]) (.seq (.seq (.reg .false [⟨(.some 95), (.mov (.t 9)), .none⟩, ⟨(.some 96), (.bin .eql (.t 95) (.c (.int .i64 0))), .none⟩, ⟨(.some 97), (.mov (.t 96)), .none⟩, ⟨(.some 98), (.mov (.t 7)), (.some ((.t 97), .false))⟩, ⟨(.some 99), (.bin .gtr (.t 98) (.c (.int .i64 0))), (.some ((.t 97), .false))⟩, ⟨(.some 100), (.mov (.t 99)), (.some ((.t 97), .false))⟩, ⟨(.some 101), (.fldA .false 0 1 (.t 8)), (.some ((.t 100), .true))⟩, ⟨(.some 102), (.load .false 1 (.t 101)), (.some ((.t 100), .true))⟩, ⟨(.some 103), (.bin .eql (.t 102) (.c (.int .i64 2))), (.some ((.t 100), .true))⟩, ⟨(.some 104), (.pick (.t 100) (.t 103) (.c (.bool .false))), (.some ((.t 97), .false))⟩, ⟨(.some 105), (.mov (.t 104)), (.some ((.t 97), .false))⟩, ⟨(.some 106), (.mov (.t 3)), (.some ((.t 105), .true))⟩, ⟨(.some 107), (.mov (.t 7)), (.some ((.t 105), .true))⟩, ⟨(.some 108), (.bin .sub (.t 107) (.c (.int .i64 1))), (.some ((.t 105), .true))⟩, ⟨(.some 109), (.idxA 4 (.t 106) (.t 108)), (.some ((.t 105), .true))⟩, ⟨(.some 110), (.fldA .false 0 1 (.t 109)), (.some ((.t 105), .true))⟩, ⟨(.some 111), (.load .false 1 (.t 110)), (.some ((.t 105), .true))⟩, ⟨(.some 112), (.bin .eql (.t 111) (.c (.int .i64 2))), (.some ((.t 105), .true))⟩, ⟨(.some 113), (.pick (.t 105) (.t 112) (.c (.bool .false))), (.some ((.t 97), .false))⟩, ⟨(.some 114), (.mov (.t 113)), (.some ((.t 97), .false))⟩, ⟨(.some 115), (.fldA .false 3 1 (.t 8)), (.some ((.t 114), .true))⟩, ⟨(.some 116), (.load .false 1 (.t 115)), (.some ((.t 114), .true))⟩, ⟨(.some 117), (.mov (.t 6)), (.some ((.t 114), .true))⟩, ⟨(.some 118), (.bin .eql (.t 116) (.t 117)), (.some ((.t 114), .true))⟩, ⟨(.some 119), (.pick (.t 114) (.t 118) (.c (.bool .false))), (.some ((.t 97), .false))⟩, ⟨(.some 120), (.pick (.t 97) (.c (.bool .true)) (.t 119)), .none⟩]) (.cond (.t 120) (.seq (.reg .false [⟨(.some 2), (.mov (.c (.bool .false))), .none⟩]) .ret) .skip)) (.reg .false [⟨(.some 121), (.fldA .false 3 1 (.t 8)), .none⟩, ⟨(.some 122), (.load .false 1 (.t 121)), .none⟩, ⟨(.some 123), (.mov (.t 9)), .none⟩, ⟨(.some 124), (.bin .add (.t 122) (.t 123)), .none⟩, ⟨(.some 6), (.mov (.t 124)), .none⟩])))))) (.reg .false [⟨(.some 46), (.mov (.t 7)), .none⟩, ⟨(.some 47), (.bin .add (.t 46) (.c (.int .i64 1))), .none⟩, ⟨(.some 7), (.mov (.t 47)), .none⟩])))))) (.seq (.reg .false [⟨(.some 125), (.mov (.t 0)), .none⟩, ⟨(.some 126), (.mov (.t 6)), .none⟩, ⟨(.some 127), (.sliceS (.t 125) (.some (.t 126)) .none), .none⟩, ⟨(.some 128), (.call (.c (.fn 12 [])) [(.t 127)]), .none⟩, ⟨(.some 129), (.mov (.t 128)), .none⟩, ⟨(.some 130), (.call (.c (.fn 6 [])) []), (.some ((.t 129), .true))⟩, ⟨(.some 131), (.pick (.t 129) (.t 130) (.c (.bool .false))), .none⟩, ⟨(.some 2), (.mov (.t 131)), .none⟩]) .ret))))))), [(.tmp (.t 2))]⟩
theorem e4 : cfn Tryd.prog Tryd.f4 = some c4 := by kernel_rfl
theorem k4 : callable Tryd.prog 4 = true := by kernel_rfl
def c5 : VFn := ⟨125, (.seq (.reg .false [⟨(.some 4), (.mov (.c (.bool .false))), .none⟩]) (.seq (.seq (.reg .false [⟨(.some 17), (.mov (.t 0)), .none⟩, ⟨(.some 18), (.len .true (.t 17)), .none⟩, ⟨(.some 19), (.bin .gtr (.t 18) (.c (.int .i64 2000))), .none⟩, ⟨(.some 20), (.mov (.t 19)), .none⟩, ⟨(.some 21), (.mov (.t 1)), (.some ((.t 20), .false))⟩, ⟨(.some 22), (.len .true (.t 21)), (.some ((.t 20), .false))⟩, ⟨(.some 23), (.bin .gtr (.t 22) (.c (.int .i64 2000))), (.some ((.t 20), .false))⟩, ⟨(.some 24), (.pick (.t 20) (.c (.bool .true)) (.t 23)), .none⟩]) (.cond (.t 24) (.seq (.reg .false [⟨(.some 25), (.call (.c (.fn 6 [])) []), .none⟩, ⟨(.some 4), (.mov (.t 25)), .none⟩]) .ret) .skip)) (.seq (.reg .false [⟨(.some 27), (.mov (.t 0)), .none⟩, ⟨(.some 28), (.call (.c (.fn 7 [])) [(.t 27)]), .none⟩, ⟨(.some 26), (.mov (.t 28)), .none⟩, ⟨(.some 29), (.ext 0 (.t 26)), .none⟩, ⟨(.some 30), (.ext 1 (.t 26)), .none⟩, ⟨(.some 31), (.ext 2 (.t 26)), .none⟩, ⟨(.some 5), (.mov (.t 29)), .none⟩, ⟨(.some 6), (.mov (.t 30)), .none⟩, ⟨(.some 7), (.mov (.t 31)), .none⟩]) (.seq (.reg .false [⟨(.some 33), (.mov (.t 1)), .none⟩, ⟨(.some 34), (.call (.c (.fn 7 [])) [(.t 33)]), .none⟩, ⟨(.some 32), (.mov (.t 34)), .none⟩, ⟨(.some 35), (.ext 0 (.t 32)), .none⟩, ⟨(.some 36), (.ext 1 (.t 32)), .none⟩, ⟨(.some 37), (.ext 2 (.t 32)), .none⟩, ⟨(.some 8), (.mov (.t 35)), .none⟩, ⟨(.some 9), (.mov (.t 36)), .none⟩, ⟨(.some 10), (.mov (.t 37)), .none⟩]) (.seq (.reg .false [⟨(.some 39), (.mov (.t 0)), .none⟩, ⟨(.some 40), (.bin .add (.t 39) (.c (.str [10]))), .none⟩, ⟨(.some 41), (.mov (.t 1)), .none⟩, ⟨(.some 42), (.bin .add (.t 40) (.t 41)), .none⟩, ⟨(.some 43), (.call (.c (.fn 7 [])) [(.t 42)]), .none⟩, ⟨(.some 38), (.mov (.t 43)), .none⟩, ⟨(.some 44), (.ext 0 (.t 38)), .none⟩, ⟨(.some 45), (.ext 1 (.t 38)), .none⟩, ⟨(.some 46), (.ext 2 (.t 38)), .none⟩, ⟨(.some 11), (.mov (.t 44)), .none⟩, ⟨(.some 12), (.mov (.t 45)), .none⟩, ⟨(.some 13), (.mov (.t 46)), .none⟩]) (.seq (.seq (.reg .false [⟨(.some 47), (.mov (.t 7)), .none⟩, ⟨(.some 48), (.bin .neq (.t 47) (.c (.int .i64 0))), .none⟩]) (.cond (.t 48) (.seq (.reg .false [⟨(.some 49), (.mov (.t 11)), .none⟩, ⟨(.some 50), (.len .false (.t 49)), .none⟩, ⟨(.some 51), (.bin .eql (.t 50) (.c (.int .i64 0))), .none⟩, ⟨(.some 52), (.mov (.t 51)), .none⟩, ⟨(.some 53), (.mov (.t 12)), (.some ((.t 52), .true))⟩, ⟨(.some 54), (.mov (.t 6)), (.some ((.t 52), .true))⟩, ⟨(.some 55), (.bin .eql (.t 53) (.t 54)), (.some ((.t 52), .true))⟩, ⟨(.some 56), (.pick (.t 52) (.t 55) (.c (.bool .false))), .none⟩, ⟨(.some 57), (.mov (.t 56)), .none⟩, ⟨(.some 58), (.mov (.t 13)), (.some ((.t 57), .true))⟩, ⟨(.some 59), (.mov (.t 7)), (.some ((.t 57), .true))⟩, ⟨(.some 60), (.bin .eql (.t 58) (.t 59)), (.some ((.t 57), .true))⟩, ⟨(.some 61), (.pick (.t 57) (.t 60) (.c (.bool .false))), .none⟩, ⟨(.some 62), (.mov (.t 61)), .none⟩, ⟨(.some 63), (.call (.c (.fn 6 [])) []), (.some ((.t 62), .true))⟩, ⟨(.some 64), (.pick (.t 62) (.t 63) (.c (.bool .false))), .none⟩, ⟨(.some 4), (.mov (.t 64)), .none⟩]) .ret) .skip)) (.seq (.seq (.reg .false [⟨(.some 65), (.mov (.t 10)), .none⟩, ⟨(.some 66), (.bin .neq (.t 65) (.c (.int .i64 0))), .none⟩]) (.cond (.t 66) (.seq (.reg .false [⟨(.some 67), (.mov (.t 11)), .none⟩, ⟨(.some 68), (.len .false (.t 67)), .none⟩, ⟨(.some 69), (.bin .eql (.t 68) (.c (.int .i64 0))), .none⟩, ⟨(.some 70), (.mov (.t 69)), .none⟩, ⟨(.some 71), (.mov (.t 12)), (.some ((.t 70), .true))⟩, ⟨(.some 72), (.mov (.t 0)), (.some ((.t 70), .true))⟩, ⟨(.some 73), (.len .true (.t 72)), (.some ((.t 70), .true))⟩, ⟨(.some 74), (.bin .add (.t 73) (.c (.int .i64 1))), (.some ((.t 70), .true))⟩, ⟨(.some 75), (.mov (.t 9)), (.some ((.t 70), .true))⟩, ⟨(.some 76), (.bin .add (.t 74) (.t 75)), (.some ((.t 70), .true))⟩, ⟨(.some 77), (.bin .eql (.t 71) (.t 76)), (.some ((.t 70), .true))⟩, ⟨(.some 78), (.pick (.t 70) (.t 77) (.c (.bool .false))), .none⟩, ⟨(.some 79), (.mov (.t 78)), .none⟩, ⟨(.some 80), (.mov (.t 13)), (.some ((.t 79), .true))⟩, ⟨(.some 81), (.mov (.t 10)), (.some ((.t 79), .true))⟩, ⟨(.some 82), (.bin .eql (.t 80) (.t 81)), (.some ((.t 79), .true))⟩, ⟨(.some 83), (.pick (.t 79) (.t 82) (.c (.bool .false))), .none⟩, ⟨(.some 84), (.mov (.t 83)), .none⟩, ⟨(.some 85), (.call (.c (.fn 6 [])) []), (.some ((.t 84), .true))⟩, ⟨(.some 86), (.pick (.t 84) (.t 85) (.c (.bool .false))), .none⟩, ⟨(.some 4), (.mov (.t 86)), .none⟩]) .ret) .skip)) (.seq (.reg .false [⟨(.some 87), (.bslice 32 4 []), .none⟩, ⟨(.some 88), (.mov (.t 5)), .none⟩, ⟨(.some 89), (.append 32 4 32 (.t 87) (.t 88)), .none⟩, ⟨(.some 14), (.mov (.t 89)), .none⟩]) (.seq (.seq (.reg .false [⟨(.some 15), (.mov (.c (.int .i64 0))), .none⟩]) (.block 0 (.loop (.seq (.seq (.reg .false [⟨(.some 90), (.mov (.t 15)), .none⟩, ⟨(.some 91), (.mov (.t 8)), .none⟩, ⟨(.some 92), (.len .false (.t 91)), .none⟩, ⟨(.some 93), (.bin .lss (.t 90) (.t 92)), .none⟩]) (.cond (.t 93) .skip (.exit 0))) (.seq (.block 1 (.seq (.reg .false [⟨(.some 96), (.mov (.t 8)), .none⟩, ⟨(.some 97), (.mov (.t 15)), .none⟩, ⟨(.some 98), (.idxA 4 (.t 96) (.t 97)), .none⟩, ⟨(.some 99), (.load .true 4 (.t 98)), .none⟩, ⟨(.some 16), (.alloc 32 4 (.agg [(.int .i64 0), (.int .i32 0), (.int .i64 0), (.int .i64 0)])), .none⟩, ⟨.none, (.store 4 (.t 16) (.t 99)), .none⟩]) (.seq (.reg .false [⟨(.some 100), (.fldA .false 3 1 (.t 16)), .none⟩, ⟨(.some 101), (.load .false 1 (.t 100)), .none⟩, ⟨(.some 102), (.mov (.t 0)), .none⟩, ⟨(.some 103), (.len .true (.t 102)), .none⟩, ⟨(.some 104), (.bin .add (.t 103) (.c (.int .i64 1))), .none⟩, ⟨(.some 105), (.bin .add (.t 101) (.t 104)), .none⟩, ⟨(.some 106), (.fldA .false 3 1 (.t 16)), .none⟩, ⟨.none, (.store 1 (.t 106) (.t 105)), .none⟩]) (.reg .false [⟨(.some 107), (.mov (.t 14)), .none⟩, ⟨(.some 108), (.load .true 4 (.t 16)), .none⟩, ⟨(.some 109), (.bslice 32 4 [(.t 108)]), .none⟩, ⟨(.some 110), (.append 32 4 32 (.t 107) (.t 109)), .none⟩, ⟨(.some 14), (.mov (.t 110)), .none⟩])))) (.reg .false [⟨(.some 94), (.mov (.t 15)), .none⟩, ⟨(.some 95), (.bin .add (.t 94) (.c (.int .i64 1))), .none⟩, ⟨(.some 15), (.mov (.t 95)), .none⟩])))))) (.seq (.reg .false [⟨(.some 111), (.mov (.t 11)), .none⟩, ⟨(.some 112), (.mov (.t 14)), .none⟩, ⟨(.some 113), (.call (.c (.fn 11 [])) [(.t 111), (.t 112)]), .none⟩, ⟨(.some 114), (.mov (.t 113)), .none⟩, ⟨(.some 115), (.mov (.t 12)), (.some ((.t 114), .true))⟩, ⟨(.some 116), (.bin .eql (.t 115) (.c (.int .i64 0))), (.some ((.t 114), .true))⟩, ⟨(.some 117), (.pick (.t 114) (.t 116) (.c (.bool .false))), .none⟩, ⟨(.some 118), (.mov (.t 117)), .none⟩, ⟨(.some 119), (.mov (.t 13)), (.some ((.t 118), .true))⟩, ⟨(.some 120), (.bin .eql (.t 119) (.c (.int .i64 0))), (.some ((.t 118), .true))⟩, ⟨(.some 121), (.pick (.t 118) (.t 120) (.c (.bool .false))), .none⟩, ⟨(.some 122), (.mov (.t 121)), .none⟩, ⟨(.some 123), (.call (.c (.fn 6 [])) []), (.some ((.t 122), .true))⟩, ⟨(.some 124), (.pick (.t 122) (.t 123) (.c (.bool .false))), .none⟩, ⟨(.some 4), (.mov (.t 124)), .none⟩]) .ret)))))))))), [(.tmp (.t 4))]⟩
theorem e5 : cfn Tryd.prog Tryd.f5 = some c5 := by kernel_rfl
def c6 : VFn := ⟨42, (.seq (.reg .false [⟨(.some 0), (.mov (.c (.bool .false))), .none⟩]) (.seq (.reg .false [⟨(.some 4), (.call (.c (.fn 9 [])) [(.c (.str [195, 169]))]), .none⟩, ⟨(.some 3), (.mov (.t 4)), .none⟩, ⟨(.some 5), (.ext 0 (.t 3)), .none⟩, ⟨(.some 6), (.ext 1 (.t 3)), .none⟩, ⟨(.some 1), (.mov (.t 5)), .none⟩, ⟨(.some 2), (.mov (.t 6)), .none⟩]) (.seq (.reg .false [⟨(.some 7), (.mov (.t 2)), .none⟩, ⟨(.some 8), (.mov (.t 7)), .none⟩, ⟨(.some 9), (.call (.c (.fn 15 [])) [(.c (.int .i32 91)), (.c (.int .i64 0))]), (.some ((.t 8), .true))⟩, ⟨(.some 10), (.call (.c (.fn 15 [])) [(.c (.int .i32 109)), (.c (.int .i64 1))]), (.some ((.t 8), .true))⟩, ⟨(.some 11), (.call (.c (.fn 16 [])) [(.c (.int .i64 12)), (.c (.int .i64 2))]), (.some ((.t 8), .true))⟩, ⟨(.some 12), (.call (.c (.fn 15 [])) [(.c (.int .i32 93)), (.c (.int .i64 4))]), (.some ((.t 8), .true))⟩, ⟨(.some 13), (.bslice 32 4 [(.t 9), (.t 10), (.t 11), (.t 12)]), (.some ((.t 8), .true))⟩, ⟨(.some 14), (.call (.c (.fn 14 [])) [(.c (.str [91, 109, 49, 50, 93])), (.t 13)]), (.some ((.t 8), .true))⟩, ⟨(.some 15), (.pick (.t 8) (.t 14) (.c (.bool .false))), .none⟩, ⟨(.some 16), (.mov (.t 15)), .none⟩, ⟨(.some 17), (.call (.c (.fn 15 [])) [(.c (.int .i32 40)), (.c (.int .i64 4))]), (.some ((.t 16), .true))⟩, ⟨(.some 18), (.call (.c (.fn 16 [])) [(.c (.int .i64 5)), (.c (.int .i64 5))]), (.some ((.t 16), .true))⟩, ⟨(.some 19), (.call (.c (.fn 16 [])) [(.c (.int .i64 0)), (.c (.int .i64 7))]), (.some ((.t 16), .true))⟩, ⟨(.some 20), (.call (.c (.fn 15 [])) [(.c (.int .i32 58)), (.c (.int .i64 8))]), (.some ((.t 16), .true))⟩, ⟨(.some 21), (.call (.c (.fn 16 [])) [(.c (.int .i64 7)), (.c (.int .i64 10))]), (.some ((.t 16), .true))⟩, ⟨(.some 22), (.bslice 32 4 [(.t 17), (.t 18), (.t 19), (.t 20), (.t 21)]), (.some ((.t 16), .true))⟩, ⟨(.some 23), (.call (.c (.fn 14 [])) [(.c (.str [35, 195, 169, 10, 40, 53, 32, 48, 58, 32, 55])), (.t 22)]), (.some ((.t 16), .true))⟩, ⟨(.some 24), (.pick (.t 16) (.t 23) (.c (.bool .false))), .none⟩, ⟨(.some 25), (.mov (.t 24)), .none⟩, ⟨(.some 26), (.call (.c (.fn 14 [])) [(.c (.str [])), (.c .nils)]), (.some ((.t 25), .true))⟩, ⟨(.some 27), (.pick (.t 25) (.t 26) (.c (.bool .false))), .none⟩, ⟨(.some 28), (.mov (.t 27)), .none⟩, ⟨(.some 29), (.call (.c (.fn 17 [])) [(.c (.str [255])), (.c (.int .i64 0))]), (.some ((.t 28), .true))⟩, ⟨(.some 30), (.pick (.t 28) (.t 29) (.c (.bool .false))), .none⟩, ⟨(.some 31), (.mov (.t 30)), .none⟩, ⟨(.some 32), (.call (.c (.fn 17 [])) [(.c (.str [48, 48, 55])), (.c (.int .i64 0))]), (.some ((.t 31), .true))⟩, ⟨(.some 33), (.pick (.t 31) (.t 32) (.c (.bool .false))), .none⟩, ⟨(.some 34), (.mov (.t 33)), .none⟩, ⟨(.some 35), (.call (.c (.fn 17 [])) [(.c (.str [49, 48, 57, 57, 53, 49, 49, 54, 50, 55, 55, 55, 55])), (.c (.int .i64 0))]), (.some ((.t 34), .true))⟩, ⟨(.some 36), (.pick (.t 34) (.t 35) (.c (.bool .false))), .none⟩, ⟨(.some 37), (.mov (.t 36)), .none⟩, ⟨(.some 38), (.call (.c (.fn 15 [])) [(.c (.int .i32 233)), (.c (.int .i64 0))]), (.some ((.t 37), .true))⟩, ⟨(.some 39), (.bslice 32 4 [(.t 38)]), (.some ((.t 37), .true))⟩, ⟨(.some 40), (.call (.c (.fn 14 [])) [(.c (.str [195, 169])), (.t 39)]), (.some ((.t 37), .true))⟩, ⟨(.some 41), (.pick (.t 37) (.t 40) (.c (.bool .false))), .none⟩, ⟨(.some 0), (.mov (.t 41)), .none⟩]) .ret))), [(.tmp (.t 0))]⟩
theorem e6 : cfn Tryd.prog Tryd.f6 = some c6 := by kernel_rfl
theorem k6 : callable Tryd.prog 6 = true := by kernel_rfl
def c7 : VFn := ⟨34, (.seq (.reg .false [⟨(.some 2), (.alloc 23 1 .nils), .none⟩, ⟨(.some 3), (.alloc 3 1 (.int .i64 0)), .none⟩, ⟨(.some 4), (.alloc 24 1 (.int .i64 0)), .none⟩]) (.seq (.reg .false [⟨(.some 9), (.mov (.t 0)), .none⟩, ⟨(.some 10), (.call (.c (.fn 9 [])) [(.t 9)]), .none⟩, ⟨(.some 8), (.mov (.t 10)), .none⟩, ⟨(.some 11), (.ext 0 (.t 8)), .none⟩, ⟨(.some 12), (.ext 1 (.t 8)), .none⟩, ⟨(.some 5), (.mov (.t 11)), .none⟩, ⟨(.some 6), (.mov (.t 12)), .none⟩]) (.seq (.seq (.reg .false [⟨(.some 13), (.mov (.t 6)), .none⟩]) (.cond (.t 13) (.reg .false [⟨(.some 14), (.mov (.t 0)), .none⟩, ⟨(.some 15), (.len .true (.t 14)), .none⟩, ⟨(.some 5), (.mov (.t 15)), .none⟩]) .skip)) (.seq (.seq (.reg .false [⟨(.some 16), (.mov (.t 0)), .none⟩, ⟨(.some 17), (.mov (.t 5)), .none⟩, ⟨(.some 18), (.sliceS (.t 16) .none (.some (.t 17))), .none⟩, ⟨(.some 19), (.call (.c (.fn 18 [])) [(.t 18)]), .none⟩]) (.block 0 (.rangeF (.t 19) [20] (.reg .false [⟨(.some 7), (.alloc 32 4 (.agg [(.int .i64 0), (.int .i32 0), (.int .i64 0), (.int .i64 0)])), .none⟩, ⟨.none, (.store 4 (.t 7) (.t 20)), .none⟩]) (.block 1 (.seq (.seq (.reg .false [⟨(.some 21), (.fldA .false 2 1 (.t 7)), .none⟩, ⟨(.some 22), (.load .false 1 (.t 21)), .none⟩, ⟨(.some 23), (.bin .lss (.t 22) (.c (.int .i64 0))), .none⟩]) (.cond (.t 23) (.seq (.regA [⟨(.some 24), (.fldA .false 3 1 (.t 7)), .none⟩, ⟨(.some 25), (.load .false 1 (.t 24)), .none⟩, ⟨.none, (.store 1 (.t 2) (.c .nils)), .none⟩, ⟨.none, (.store 1 (.t 3) (.t 25)), .none⟩, ⟨.none, (.store 1 (.t 4) (.c (.int .i64 1))), .none⟩] [[], [0], [], [1, 2, 0, 1, 2], [3, 0, 1, 2, 3]]) .ret) .skip)) (.reg .false [⟨(.some 26), (.load .false 1 (.t 2)), .none⟩, ⟨(.some 27), (.load .true 4 (.t 7)), .none⟩, ⟨(.some 28), (.bslice 32 4 [(.t 27)]), .none⟩, ⟨(.some 29), (.append 32 4 32 (.t 26) (.t 28)), .none⟩, ⟨.none, (.store 1 (.t 2) (.t 29)), .none⟩])))))) (.seq (.seq (.reg .false [⟨(.some 30), (.mov (.t 6)), .none⟩, ⟨(.some 31), (.not (.t 30)), .none⟩]) (.cond (.t 31) (.seq (.reg .false [⟨(.some 32), (.mov (.t 5)), .none⟩, ⟨.none, (.store 1 (.t 2) (.c .nils)), .none⟩, ⟨.none, (.store 1 (.t 3) (.t 32)), .none⟩, ⟨.none, (.store 1 (.t 4) (.c (.int .i64 1))), .none⟩]) .ret) .skip)) (.seq (.reg .false [⟨(.some 33), (.load .false 1 (.t 2)), .none⟩, ⟨.none, (.store 1 (.t 2) (.t 33)), .none⟩, ⟨.none, (.store 1 (.t 3) (.c (.int .i64 0))), .none⟩, ⟨.none, (.store 1 (.t 4) (.c (.int .i64 0))), .none⟩]) .ret)))))), [(.cell .false 1 (.t 2)), (.cell .false 1 (.t 3)), (.cell .false 1 (.t 4))]⟩
theorem e7 : cfn Tryd.prog Tryd.f7 = some c7 := by kernel_rfl
theorem k7 : callable Tryd.prog 7 = true := by kernel_rfl
def c9 : VFn := ⟨22, (.seq (.reg .false [⟨(.some 2), (.mov (.c (.int .i64 0))), .none⟩, ⟨(.some 3), (.mov (.c (.bool .false))), .none⟩]) (.seq (.seq (.reg .false [⟨(.some 6), (.mov (.t 0)), .none⟩, ⟨(.some 7), (.rngS .false (.t 6)), .none⟩]) (.block 0 (.loop (.seq (.reg .false [⟨(.some 8), (.nxtS (.t 7)), .none⟩, ⟨(.some 9), (.ext 0 (.t 8)), .none⟩]) (.seq (.cond (.t 9) .skip (.exit 0)) (.block 1 (.seq (.reg .false [⟨(.some 10), (.ext 1 (.t 8)), .none⟩, ⟨(.some 11), (.ext 2 (.t 8)), .none⟩, ⟨(.some 4), (.mov (.t 10)), .none⟩, ⟨(.some 5), (.mov (.t 11)), .none⟩]) (.seq (.reg .false [⟨(.some 12), (.mov (.t 5)), .none⟩, ⟨(.some 13), (.bin .eql (.t 12) (.c (.int .i32 65533))), .none⟩, ⟨(.some 14), (.mov (.t 13)), .none⟩, ⟨(.some 15), (.mov (.t 0)), (.some ((.t 14), .true))⟩, ⟨(.some 16), (.mov (.t 4)), (.some ((.t 14), .true))⟩, ⟨(.some 17), (.sliceS (.t 15) (.some (.t 16)) .none), (.some ((.t 14), .true))⟩, ⟨(.some 18), (.call (.c (.fn 22 [])) [(.t 17), (.c (.str [239, 191, 189]))]), (.some ((.t 14), .true))⟩, ⟨(.some 19), (.not (.t 18)), (.some ((.t 14), .true))⟩, ⟨(.some 20), (.pick (.t 14) (.t 19) (.c (.bool .false))), .none⟩]) (.cond (.t 20) (.seq (.reg .false [⟨(.some 21), (.mov (.t 4)), .none⟩, ⟨(.some 2), (.mov (.t 21)), .none⟩, ⟨(.some 3), (.mov (.c (.bool .false))), .none⟩]) .ret) .skip))))))))) (.seq (.reg .false [⟨(.some 2), (.mov (.c (.int .i64 0))), .none⟩, ⟨(.some 3), (.mov (.c (.bool .true))), .none⟩]) .ret))), [(.tmp (.t 2)), (.tmp (.t 3))]⟩
theorem e9 : cfn Tryd.prog Tryd.f9 = some c9 := by kernel_rfl
theorem k9 : callable Tryd.prog 9 = true := by kernel_rfl
def c11 : VFn := ⟨26, (.seq (.reg .false [⟨(.some 4), (.mov (.c (.bool .false))), .none⟩]) (.seq (.seq (.reg .false [⟨(.some 6), (.mov (.t 0)), .none⟩, ⟨(.some 7), (.len .false (.t 6)), .none⟩, ⟨(.some 8), (.mov (.t 1)), .none⟩, ⟨(.some 9), (.len .false (.t 8)), .none⟩, ⟨(.some 10), (.bin .neq (.t 7) (.t 9)), .none⟩]) (.cond (.t 10) (.seq (.reg .false [⟨(.some 4), (.mov (.c (.bool .false))), .none⟩]) .ret) .skip)) (.seq (.seq (.reg .false [⟨(.some 5), (.mov (.c (.int .i64 0))), .none⟩]) (.block 0 (.loop (.seq (.seq (.reg .false [⟨(.some 11), (.mov (.t 5)), .none⟩, ⟨(.some 12), (.mov (.t 0)), .none⟩, ⟨(.some 13), (.len .false (.t 12)), .none⟩, ⟨(.some 14), (.bin .lss (.t 11) (.t 13)), .none⟩]) (.cond (.t 14) .skip (.exit 0))) (.seq (.block 1 (.seq (.reg .true [⟨(.some 17), (.mov (.t 0)), .none⟩, ⟨(.some 18), (.mov (.t 5)), .none⟩, ⟨(.some 19), (.idxA 4 (.t 17) (.t 18)), .none⟩, ⟨(.some 20), (.load .true 4 (.t 19)), .none⟩, ⟨(.some 21), (.mov (.t 1)), .none⟩, ⟨(.some 22), (.mov (.t 5)), .none⟩, ⟨(.some 23), (.idxA 4 (.t 21) (.t 22)), .none⟩, ⟨(.some 24), (.load .true 4 (.t 23)), .none⟩, ⟨(.some 25), (.eqS .true [0, 0, 0, 0] (.t 20) (.t 24)), .none⟩]) (.cond (.t 25) (.seq (.reg .false [⟨(.some 4), (.mov (.c (.bool .false))), .none⟩]) .ret) .skip))) (.reg .false [⟨(.some 15), (.mov (.t 5)), .none⟩, ⟨(.some 16), (.bin .add (.t 15) (.c (.int .i64 1))), .none⟩, ⟨(.some 5), (.mov (.t 16)), .none⟩])))))) (.seq (.reg .false [⟨(.some 4), (.mov (.c (.bool .true))), .none⟩]) .ret)))), [(.tmp (.t 4))]⟩
theorem e11 : cfn Tryd.prog Tryd.f11 = some c11 := by kernel_rfl
theorem k11 : callable Tryd.prog 11 = true := by kernel_rfl
def c12 : VFn := ⟨34, (.seq (.reg .false [⟨(.some 2), (.mov (.c (.bool .false))), .none⟩]) (.seq (.reg .false [⟨(.some 3), (.mov (.c (.bool .false))), .none⟩]) (.seq (.seq (.reg .false [⟨(.some 4), (.mov (.c (.int .i64 0))), .none⟩]) (.block 0 (.loop (.seq (.seq (.reg .false [⟨(.some 5), (.mov (.t 4)), .none⟩, ⟨(.some 6), (.mov (.t 0)), .none⟩, ⟨(.some 7), (.len .true (.t 6)), .none⟩, ⟨(.some 8), (.bin .lss (.t 5) (.t 7)), .none⟩]) (.cond (.t 8) .skip (.exit 0))) (.seq (.block 1 (.block 2 (.seq (.reg .false [⟨(.some 12), (.mov (.t 0)), .none⟩, ⟨(.some 13), (.mov (.t 4)), .none⟩, ⟨(.some 14), (.idxS (.t 12) (.t 13)), .none⟩, ⟨(.some 15), (.bin .eql (.t 14) (.c (.int .u8 10))), .none⟩, ⟨(.some 11), (.mov (.t 15)), .none⟩]) (.cond (.t 11) (.reg .false [⟨(.some 3), (.mov (.c (.bool .false))), .none⟩]) (.seq (.reg .false [⟨(.some 17), (.mov (.t 3)), .none⟩, ⟨(.some 16), (.mov (.t 17)), .none⟩]) (.cond (.t 16) .skip (.seq (.reg .false [⟨(.some 19), (.mov (.t 0)), .none⟩, ⟨(.some 20), (.mov (.t 4)), .none⟩, ⟨(.some 21), (.idxS (.t 19) (.t 20)), .none⟩, ⟨(.some 22), (.bin .eql (.t 21) (.c (.int .u8 35))), .none⟩, ⟨(.some 18), (.mov (.t 22)), .none⟩]) (.cond (.t 18) (.reg .false [⟨(.some 3), (.mov (.c (.bool .true))), .none⟩]) (.seq (.reg .false [⟨(.some 24), (.mov (.t 0)), .none⟩, ⟨(.some 25), (.mov (.t 4)), .none⟩, ⟨(.some 26), (.idxS (.t 24) (.t 25)), .none⟩, ⟨(.some 27), (.bin .neq (.t 26) (.c (.int .u8 32))), .none⟩, ⟨(.some 28), (.mov (.t 27)), .none⟩, ⟨(.some 29), (.mov (.t 0)), (.some ((.t 28), .true))⟩, ⟨(.some 30), (.mov (.t 4)), (.some ((.t 28), .true))⟩, ⟨(.some 31), (.idxS (.t 29) (.t 30)), (.some ((.t 28), .true))⟩, ⟨(.some 32), (.bin .neq (.t 31) (.c (.int .u8 9))), (.some ((.t 28), .true))⟩, ⟨(.some 33), (.pick (.t 28) (.t 32) (.c (.bool .false))), .none⟩, ⟨(.some 23), (.mov (.t 33)), .none⟩]) (.cond (.t 23) (.seq (.reg .false [⟨(.some 2), (.mov (.c (.bool .false))), .none⟩]) .ret) .skip)))))))))) (.reg .false [⟨(.some 9), (.mov (.t 4)), .none⟩, ⟨(.some 10), (.bin .add (.t 9) (.c (.int .i64 1))), .none⟩, ⟨(.some 4), (.mov (.t 10)), .none⟩])))))) (.seq (.reg .false [⟨(.some 2), (.mov (.c (.bool .true))), .none⟩]) .ret)))), [(.tmp (.t 2))]⟩
theorem e12 : cfn Tryd.prog Tryd.f12 = some c12 := by kernel_rfl
theorem k12 : callable Tryd.prog 12 = true := by kernel_rfl
def c13 : VFn := ⟨82, (.seq (.reg .false [⟨(.some 3), (.box 32 4 (.t 1)), .none⟩, ⟨(.some 4), (.mov (.c (.int .i64 0))), .none⟩]) (.seq (.seq (.reg .false [⟨(.some 8), (.fldA .false 0 1 (.t 3)), .none⟩, ⟨(.some 9), (.load .false 1 (.t 8)), .none⟩, ⟨(.some 10), (.bin .eql (.t 9) (.c (.int .i64 1))), .none⟩]) (.cond (.t 10) (.seq (.reg .false [⟨(.some 11), (.fldA .false 1 1 (.t 3)), .none⟩, ⟨(.some 12), (.load .false 1 (.t 11)), .none⟩, ⟨(.some 13), (.rngS .true (.t 12)), .none⟩, ⟨(.some 5), (.mov (.t 13)), .none⟩]) (.seq (.seq (.reg .false [⟨(.some 14), (.fldA .false 3 1 (.t 3)), .none⟩, ⟨(.some 15), (.load .false 1 (.t 14)), .none⟩, ⟨(.some 16), (.mov (.t 5)), .none⟩, ⟨(.some 17), (.len .true (.t 16)), .none⟩, ⟨(.some 18), (.bin .add (.t 15) (.t 17)), .none⟩, ⟨(.some 19), (.mov (.t 0)), .none⟩, ⟨(.some 20), (.len .true (.t 19)), .none⟩, ⟨(.some 21), (.bin .gtr (.t 18) (.t 20)), .none⟩, ⟨(.some 22), (.mov (.t 21)), .none⟩, ⟨(.some 23), (.mov (.t 0)), (.some ((.t 22), .false))⟩, ⟨(.some 24), (.fldA .false 3 1 (.t 3)), (.some ((.t 22), .false))⟩, ⟨(.some 25), (.load .false 1 (.t 24)), (.some ((.t 22), .false))⟩, ⟨(.some 26), (.fldA .false 3 1 (.t 3)), (.some ((.t 22), .false))⟩, ⟨(.some 27), (.load .false 1 (.t 26)), (.some ((.t 22), .false))⟩, ⟨(.some 28), (.mov (.t 5)), (.some ((.t 22), .false))⟩, ⟨(.some 29), (.len .true (.t 28)), (.some ((.t 22), .false))⟩, ⟨(.some 30), (.bin .add (.t 27) (.t 29)), (.some ((.t 22), .false))⟩, ⟨(.some 31), (.sliceS (.t 23) (.some (.t 25)) (.some (.t 30))), (.some ((.t 22), .false))⟩, ⟨(.some 32), (.mov (.t 5)), (.some ((.t 22), .false))⟩, ⟨(.some 33), (.bin .neq (.t 31) (.t 32)), (.some ((.t 22), .false))⟩, ⟨(.some 34), (.pick (.t 22) (.c (.bool .true)) (.t 33)), .none⟩]) (.cond (.t 34) (.seq (.reg .false [⟨(.some 4), (.mov (.c (.int .i64 0))), .none⟩]) .ret) .skip)) (.seq (.reg .false [⟨(.some 35), (.mov (.t 5)), .none⟩, ⟨(.some 36), (.len .true (.t 35)), .none⟩, ⟨(.some 4), (.mov (.t 36)), .none⟩]) .ret))) .skip)) (.seq (.reg .true [⟨(.some 37), (.fldA .false 3 1 (.t 3)), .none⟩, ⟨(.some 38), (.load .false 1 (.t 37)), .none⟩, ⟨(.some 6), (.mov (.c (.int .i64 0))), .none⟩, ⟨(.some 7), (.mov (.t 38)), .none⟩]) (.seq (.block 0 (.loop (.seq (.seq (.reg .false [⟨(.some 39), (.mov (.t 7)), .none⟩, ⟨(.some 40), (.mov (.t 0)), .none⟩, ⟨(.some 41), (.len .true (.t 40)), .none⟩, ⟨(.some 42), (.bin .lss (.t 39) (.t 41)), .none⟩, ⟨(.some 43), (.mov (.t 42)), .none⟩, ⟨(.some 44), (.mov (.t 0)), (.some ((.t 43), .true))⟩, ⟨(.some 45), (.mov (.t 7)), (.some ((.t 43), .true))⟩, ⟨(.some 46), (.idxS (.t 44) (.t 45)), (.some ((.t 43), .true))⟩, ⟨(.some 47), (.bin .geq (.t 46) (.c (.int .u8 48))), (.some ((.t 43), .true))⟩, ⟨(.some 48), (.pick (.t 43) (.t 47) (.c (.bool .false))), .none⟩, ⟨(.some 49), (.mov (.t 48)), .none⟩, ⟨(.some 50), (.mov (.t 0)), (.some ((.t 49), .true))⟩, ⟨(.some 51), (.mov (.t 7)), (.some ((.t 49), .true))⟩, ⟨(.some 52), (.idxS (.t 50) (.t 51)), (.some ((.t 49), .true))⟩, ⟨(.some 53), (.bin .leq (.t 52) (.c (.int .u8 57))), (.some ((.t 49), .true))⟩, ⟨(.some 54), (.pick (.t 49) (.t 53) (.c (.bool .false))), .none⟩, ⟨(.some 55), (.mov (.t 54)), .none⟩, ⟨(.some 56), (.mov (.t 6)), (.some ((.t 55), .true))⟩, ⟨(.some 57), (.bin .leq (.t 56) (.c (.int .i64 1099511627776))), (.some ((.t 55), .true))⟩, ⟨(.some 58), (.pick (.t 55) (.t 57) (.c (.bool .false))), .none⟩]) (.cond (.t 58) .skip (.exit 0))) (.block 1 (.seq (.reg .false [⟨(.some 59), (.mov (.t 6)), .none⟩, ⟨(.some 60), (.bin .mul (.c (.int .i64 10)) (.t 59)), .none⟩, ⟨(.some 61), (.mov (.t 0)), .none⟩, ⟨(.some 62), (.mov (.t 7)), .none⟩, ⟨(.some 63), (.idxS (.t 61) (.t 62)), .none⟩, ⟨(.some 64), (.bin .sub (.t 63) (.c (.int .u8 48))), .none⟩, ⟨(.some 65), (.convI .i64 (.t 64)), .none⟩, ⟨(.some 66), (.bin .add (.t 60) (.t 65)), .none⟩, ⟨(.some 6), (.mov (.t 66)), .none⟩]) (.reg .false [⟨(.some 67), (.mov (.t 7)), .none⟩, ⟨(.some 68), (.bin .add (.t 67) (.c (.int .i64 1))), .none⟩, ⟨(.some 7), (.mov (.t 68)), .none⟩])))))) (.seq (.seq (.reg .false [⟨(.some 69), (.mov (.t 6)), .none⟩, ⟨(.some 70), (.fldA .false 2 1 (.t 3)), .none⟩, ⟨(.some 71), (.load .false 1 (.t 70)), .none⟩, ⟨(.some 72), (.bin .neq (.t 69) (.t 71)), .none⟩, ⟨(.some 73), (.mov (.t 72)), .none⟩, ⟨(.some 74), (.fldA .false 1 1 (.t 3)), (.some ((.t 73), .false))⟩, ⟨(.some 75), (.load .false 1 (.t 74)), (.some ((.t 73), .false))⟩, ⟨(.some 76), (.bin .neq (.t 75) (.c (.int .i32 0))), (.some ((.t 73), .false))⟩, ⟨(.some 77), (.pick (.t 73) (.c (.bool .true)) (.t 76)), .none⟩]) (.cond (.t 77) (.seq (.reg .false [⟨(.some 4), (.mov (.c (.int .i64 0))), .none⟩]) .ret) .skip)) (.seq (.reg .false [⟨(.some 78), (.mov (.t 7)), .none⟩, ⟨(.some 79), (.fldA .false 3 1 (.t 3)), .none⟩, ⟨(.some 80), (.load .false 1 (.t 79)), .none⟩, ⟨(.some 81), (.bin .sub (.t 78) (.t 80)), .none⟩, ⟨(.some 4), (.mov (.t 81)), .none⟩]) .ret)))))), [(.tmp (.t 4))]⟩
theorem e13 : cfn Tryd.prog Tryd.f13 = some c13 := by kernel_rfl
theorem k13 : callable Tryd.prog 13 = true := by kernel_rfl
def c14 : VFn := ⟨25, (.seq (.reg .false [⟨(.some 4), (.mov (.c (.bool .false))), .none⟩]) (.seq (.reg .false [⟨(.some 9), (.mov (.t 0)), .none⟩, ⟨(.some 10), (.call (.c (.fn 7 [])) [(.t 9)]), .none⟩, ⟨(.some 8), (.mov (.t 10)), .none⟩, ⟨(.some 11), (.ext 0 (.t 8)), .none⟩, ⟨(.some 12), (.ext 1 (.t 8)), .none⟩, ⟨(.some 13), (.ext 2 (.t 8)), .none⟩, ⟨(.some 5), (.mov (.t 11)), .none⟩, ⟨(.some 6), (.mov (.t 12)), .none⟩, ⟨(.some 7), (.mov (.t 13)), .none⟩]) (.seq (.reg .false [⟨(.some 14), (.mov (.t 7)), .none⟩, ⟨(.some 15), (.bin .eql (.t 14) (.c (.int .i64 0))), .none⟩, ⟨(.some 16), (.mov (.t 15)), .none⟩, ⟨(.some 17), (.mov (.t 6)), (.some ((.t 16), .true))⟩, ⟨(.some 18), (.bin .eql (.t 17) (.c (.int .i64 0))), (.some ((.t 16), .true))⟩, ⟨(.some 19), (.pick (.t 16) (.t 18) (.c (.bool .false))), .none⟩, ⟨(.some 20), (.mov (.t 19)), .none⟩, ⟨(.some 21), (.mov (.t 5)), (.some ((.t 20), .true))⟩, ⟨(.some 22), (.mov (.t 1)), (.some ((.t 20), .true))⟩, ⟨(.some 23), (.call (.c (.fn 11 [])) [(.t 21), (.t 22)]), (.some ((.t 20), .true))⟩, ⟨(.some 24), (.pick (.t 20) (.t 23) (.c (.bool .false))), .none⟩, ⟨(.some 4), (.mov (.t 24)), .none⟩]) .ret))), [(.tmp (.t 4))]⟩
theorem e14 : cfn Tryd.prog Tryd.f14 = some c14 := by kernel_rfl
theorem k14 : callable Tryd.prog 14 = true := by kernel_rfl
def c15 : VFn := ⟨8, (.seq (.reg .false [⟨(.some 4), (.alloc 32 4 (.agg [(.int .i64 0), (.int .i32 0), (.int .i64 0), (.int .i64 0)])), .none⟩]) (.seq (.reg .false [⟨(.some 5), (.mov (.t 0)), .none⟩, ⟨(.some 6), (.mov (.t 1)), .none⟩, ⟨(.some 7), (.build [(.int .i64 0), (.int .i32 0), (.int .i64 0), (.int .i64 0)] [(0, (1, (.c (.int .i64 1)))), (1, (1, (.t 5))), (3, (1, (.t 6)))]), .none⟩, ⟨.none, (.store 4 (.t 4) (.t 7)), .none⟩]) .ret)), [(.cell .true 4 (.t 4))]⟩
theorem e15 : cfn Tryd.prog Tryd.f15 = some c15 := by kernel_rfl
theorem k15 : callable Tryd.prog 15 = true := by kernel_rfl
def c16 : VFn := ⟨8, (.seq (.reg .false [⟨(.some 4), (.alloc 32 4 (.agg [(.int .i64 0), (.int .i32 0), (.int .i64 0), (.int .i64 0)])), .none⟩]) (.seq (.reg .false [⟨(.some 5), (.mov (.t 0)), .none⟩, ⟨(.some 6), (.mov (.t 1)), .none⟩, ⟨(.some 7), (.build [(.int .i64 0), (.int .i32 0), (.int .i64 0), (.int .i64 0)] [(0, (1, (.c (.int .i64 2)))), (2, (1, (.t 5))), (3, (1, (.t 6)))]), .none⟩, ⟨.none, (.store 4 (.t 4) (.t 7)), .none⟩]) .ret)), [(.cell .true 4 (.t 4))]⟩
theorem e16 : cfn Tryd.prog Tryd.f16 = some c16 := by kernel_rfl
theorem k16 : callable Tryd.prog 16 = true := by kernel_rfl
def c17 : VFn := ⟨26, (.seq (.reg .false [⟨(.some 4), (.mov (.c (.bool .false))), .none⟩]) (.seq (.reg .false [⟨(.some 9), (.mov (.t 0)), .none⟩, ⟨(.some 10), (.call (.c (.fn 7 [])) [(.t 9)]), .none⟩, ⟨(.some 8), (.mov (.t 10)), .none⟩, ⟨(.some 11), (.ext 0 (.t 8)), .none⟩, ⟨(.some 12), (.ext 1 (.t 8)), .none⟩, ⟨(.some 13), (.ext 2 (.t 8)), .none⟩, ⟨(.some 5), (.mov (.t 11)), .none⟩, ⟨(.some 6), (.mov (.t 12)), .none⟩, ⟨(.some 7), (.mov (.t 13)), .none⟩]) (.seq (.reg .false [⟨(.some 14), (.mov (.t 5)), .none⟩, ⟨(.some 15), (.len .false (.t 14)), .none⟩, ⟨(.some 16), (.bin .eql (.t 15) (.c (.int .i64 0))), .none⟩, ⟨(.some 17), (.mov (.t 16)), .none⟩, ⟨(.some 18), (.mov (.t 6)), (.some ((.t 17), .true))⟩, ⟨(.some 19), (.mov (.t 1)), (.some ((.t 17), .true))⟩, ⟨(.some 20), (.bin .eql (.t 18) (.t 19)), (.some ((.t 17), .true))⟩, ⟨(.some 21), (.pick (.t 17) (.t 20) (.c (.bool .false))), .none⟩, ⟨(.some 22), (.mov (.t 21)), .none⟩, ⟨(.some 23), (.mov (.t 7)), (.some ((.t 22), .true))⟩, ⟨(.some 24), (.bin .eql (.t 23) (.c (.int .i64 1))), (.some ((.t 22), .true))⟩, ⟨(.some 25), (.pick (.t 22) (.t 24) (.c (.bool .false))), .none⟩, ⟨(.some 4), (.mov (.t 25)), .none⟩]) .ret))), [(.tmp (.t 4))]⟩
theorem e17 : cfn Tryd.prog Tryd.f17 = some c17 := by kernel_rfl
theorem k17 : callable Tryd.prog 17 = true := by kernel_rfl
def c18 : VFn := ⟨4, (.seq (.reg .false [⟨(.some 1), (.box 9 1 (.t 0)), .none⟩, ⟨(.some 2), (.mov (.c .nilfn)), .none⟩]) (.seq (.reg .false [⟨(.some 3), (.mkfn 23 [(.t 1)]), .none⟩, ⟨(.some 2), (.mov (.t 3)), .none⟩]) .ret)), [(.tmp (.t 2))]⟩
theorem e18 : cfn Tryd.prog Tryd.f18 = some c18 := by kernel_rfl
theorem k18 : callable Tryd.prog 18 = true := by kernel_rfl
def c22 : VFn := ⟨8, (.seq (.reg .false [⟨(.some 4), (.mov (.c (.bool .false))), .none⟩]) (.seq (.reg .false [⟨(.some 5), (.mov (.t 0)), .none⟩, ⟨(.some 6), (.mov (.t 1)), .none⟩, ⟨(.some 7), (.call (.c (.fn 31 [])) [(.t 5), (.t 6)]), .none⟩, ⟨(.some 4), (.mov (.t 7)), .none⟩]) .ret)), [(.tmp (.t 4))]⟩
theorem e22 : cfn Tryd.prog Tryd.f22 = some c22 := by kernel_rfl
theorem k22 : callable Tryd.prog 22 = true := by kernel_rfl
def c23 : VFn := ⟨30, (.seq (.reg .false [⟨(.some 3), (.alloc 3 1 (.int .i64 0)), .none⟩, ⟨.none, (.store 1 (.t 3) (.c (.int .i64 0))), .none⟩]) (.seq (.reg .false [⟨(.some 9), (.mkfn 24 [(.t 3), (.t 1)]), .none⟩, ⟨(.some 4), (.mov (.t 9)), .none⟩]) (.seq (.reg .false [⟨(.some 10), (.load .false 1 (.t 1)), .none⟩, ⟨(.some 11), (.rngS .false (.t 10)), .none⟩]) (.block 0 (.loop (.seq (.reg .false [⟨(.some 12), (.nxtS (.t 11)), .none⟩, ⟨(.some 13), (.ext 0 (.t 12)), .none⟩]) (.seq (.cond (.t 13) .skip (.exit 0)) (.block 1 (.seq (.reg .false [⟨(.some 14), (.ext 1 (.t 12)), .none⟩, ⟨(.some 15), (.ext 2 (.t 12)), .none⟩, ⟨(.some 5), (.mov (.t 14)), .none⟩, ⟨(.some 6), (.mov (.t 15)), .none⟩]) (.seq (.reg .false [⟨(.some 17), (.mov (.t 4)), .none⟩, ⟨(.some 18), (.mov (.t 5)), .none⟩, ⟨(.some 19), (.mov (.t 6)), .none⟩, ⟨(.some 20), (.call (.t 17) [(.t 18), (.t 19)]), .none⟩, ⟨(.some 16), (.mov (.t 20)), .none⟩, ⟨(.some 21), (.ext 0 (.t 16)), .none⟩, ⟨(.some 22), (.ext 1 (.t 16)), .none⟩, ⟨(.some 7), (.alloc 32 4 (.agg [(.int .i64 0), (.int .i32 0), (.int .i64 0), (.int .i64 0)])), .none⟩, ⟨.none, (.store 4 (.t 7) (.t 21)), .none⟩, ⟨(.some 8), (.mov (.t 22)), .none⟩]) (.seq (.reg .false [⟨(.some 23), (.mov (.t 8)), .none⟩, ⟨(.some 24), (.mov (.t 23)), .none⟩, ⟨(.some 25), (.mov (.t 0)), (.some ((.t 24), .true))⟩, ⟨(.some 26), (.load .true 4 (.t 7)), (.some ((.t 24), .true))⟩, ⟨(.some 27), (.call (.t 25) [(.t 26)]), (.some ((.t 24), .true))⟩, ⟨(.some 28), (.not (.t 27)), (.some ((.t 24), .true))⟩, ⟨(.some 29), (.pick (.t 24) (.t 28) (.c (.bool .false))), .none⟩]) (.cond (.t 29) .ret .skip)))))))))))), []⟩
theorem e23 : cfn Tryd.prog Tryd.f23 = some c23 := by kernel_rfl
theorem k23 : callable Tryd.prog 23 = true := by kernel_rfl
def c24 : VFn := ⟨60, (.seq (.reg .false [⟨(.some 6), (.alloc 32 4 (.agg [(.int .i64 0), (.int .i32 0), (.int .i64 0), (.int .i64 0)])), .none⟩, ⟨(.some 7), (.mov (.c (.bool .false))), .none⟩]) (.seq (.block 0 (.seq (.reg .false [⟨(.some 12), (.mov (.t 0)), .none⟩, ⟨(.some 13), (.load .false 1 (.t 2)), .none⟩, ⟨(.some 14), (.bin .lss (.t 12) (.t 13)), .none⟩, ⟨(.some 15), (.mov (.t 14)), .none⟩, ⟨(.some 16), (.mov (.t 1)), (.some ((.t 15), .false))⟩, ⟨(.some 17), (.call (.c (.fn 25 [])) [(.t 16)]), (.some ((.t 15), .false))⟩, ⟨(.some 18), (.pick (.t 15) (.c (.bool .true)) (.t 17)), .none⟩, ⟨(.some 11), (.mov (.t 18)), .none⟩]) (.cond (.t 11) (.seq (.reg .false [⟨(.some 19), (.build [(.int .i64 0), (.int .i32 0), (.int .i64 0), (.int .i64 0)] []), .none⟩, ⟨.none, (.store 4 (.t 6) (.t 19)), .none⟩, ⟨(.some 7), (.mov (.c (.bool .false))), .none⟩]) .ret) (.seq (.reg .false [⟨(.some 21), (.mov (.t 1)), .none⟩, ⟨(.some 22), (.bin .eql (.t 21) (.c (.int .i32 35))), .none⟩, ⟨(.some 20), (.mov (.t 22)), .none⟩]) (.cond (.t 20) (.seq (.reg .false [⟨(.some 23), (.load .false 1 (.t 3)), .none⟩, ⟨(.some 24), (.mov (.t 0)), .none⟩, ⟨(.some 25), (.sliceS (.t 23) (.some (.t 24)) .none), .none⟩, ⟨(.some 26), (.call (.c (.fn 26 [])) [(.t 25), (.c (.int .u8 10))]), .none⟩, ⟨(.some 8), (.mov (.t 26)), .none⟩]) (.seq (.seq (.reg .false [⟨(.some 27), (.load .false 1 (.t 3)), .none⟩, ⟨(.some 28), (.len .true (.t 27)), .none⟩, ⟨.none, (.store 1 (.t 2) (.t 28)), .none⟩]) (.seq (.reg .false [⟨(.some 29), (.mov (.t 8)), .none⟩, ⟨(.some 30), (.bin .geq (.t 29) (.c (.int .i64 0))), .none⟩]) (.cond (.t 30) (.reg .false [⟨(.some 31), (.mov (.t 0)), .none⟩, ⟨(.some 32), (.mov (.t 8)), .none⟩, ⟨(.some 33), (.bin .add (.t 31) (.t 32)), .none⟩, ⟨.none, (.store 1 (.t 2) (.t 33)), .none⟩]) .skip))) (.seq (.reg .false [⟨(.some 34), (.build [(.int .i64 0), (.int .i32 0), (.int .i64 0), (.int .i64 0)] []), .none⟩, ⟨.none, (.store 4 (.t 6) (.t 34)), .none⟩, ⟨(.some 7), (.mov (.c (.bool .false))), .none⟩]) .ret))) (.seq (.reg .false [⟨(.some 36), (.mov (.t 1)), .none⟩, ⟨(.some 37), (.call (.c (.fn 27 [])) [(.t 36)]), .none⟩, ⟨(.some 35), (.mov (.t 37)), .none⟩]) (.cond (.t 35) (.seq (.reg .false [⟨(.some 38), (.mov (.t 0)), .none⟩, ⟨(.some 39), (.load .false 1 (.t 3)), .none⟩, ⟨(.some 40), (.mov (.t 0)), .none⟩, ⟨(.some 41), (.sliceS (.t 39) (.some (.t 40)) .none), .none⟩, ⟨(.some 42), (.call (.c (.fn 28 [])) [(.t 41)]), .none⟩, ⟨(.some 43), (.bin .add (.t 38) (.t 42)), .none⟩, ⟨.none, (.store 1 (.t 2) (.t 43)), .none⟩]) (.seq (.reg .false [⟨(.some 45), (.load .false 1 (.t 3)), .none⟩, ⟨(.some 46), (.mov (.t 0)), .none⟩, ⟨(.some 47), (.load .false 1 (.t 2)), .none⟩, ⟨(.some 48), (.sliceS (.t 45) (.some (.t 46)) (.some (.t 47))), .none⟩, ⟨(.some 49), (.call (.c (.fn 29 [])) [(.t 48)]), .none⟩, ⟨(.some 44), (.mov (.t 49)), .none⟩, ⟨(.some 50), (.ext 0 (.t 44)), .none⟩, ⟨(.some 51), (.ext 1 (.t 44)), .none⟩, ⟨(.some 9), (.mov (.t 50)), .none⟩, ⟨(.some 10), (.mov (.t 51)), .none⟩]) (.seq (.seq (.reg .false [⟨(.some 52), (.mov (.t 10)), .none⟩, ⟨(.some 53), (.not (.t 52)), .none⟩]) (.cond (.t 53) (.reg .false [⟨(.some 9), (.mov (.c (.int .i64 (-1)))), .none⟩]) .skip)) (.seq (.reg .false [⟨(.some 54), (.mov (.t 9)), .none⟩, ⟨(.some 55), (.mov (.t 0)), .none⟩, ⟨(.some 56), (.build [(.int .i64 0), (.int .i32 0), (.int .i64 0), (.int .i64 0)] [(0, (1, (.c (.int .i64 2)))), (2, (1, (.t 54))), (3, (1, (.t 55)))]), .none⟩, ⟨.none, (.store 4 (.t 6) (.t 56)), .none⟩, ⟨(.some 7), (.mov (.c (.bool .true))), .none⟩]) .ret)))) .skip))))))) (.seq (.reg .false [⟨(.some 57), (.mov (.t 1)), .none⟩, ⟨(.some 58), (.mov (.t 0)), .none⟩, ⟨(.some 59), (.build [(.int .i64 0), (.int .i32 0), (.int .i64 0), (.int .i64 0)] [(0, (1, (.c (.int .i64 1)))), (1, (1, (.t 57))), (3, (1, (.t 58)))]), .none⟩, ⟨.none, (.store 4 (.t 6) (.t 59)), .none⟩, ⟨(.some 7), (.mov (.c (.bool .true))), .none⟩]) .ret))), [(.cell .true 4 (.t 6)), (.tmp (.t 7))]⟩
theorem e24 : cfn Tryd.prog Tryd.f24 = some c24 := by kernel_rfl
theorem k24 : callable Tryd.prog 24 = true := by kernel_rfl
def c25 : VFn := ⟨13, (.seq (.reg .false [⟨(.some 2), (.mov (.c (.bool .false))), .none⟩]) (.seq (.reg .false [⟨(.some 3), (.mov (.t 0)), .none⟩, ⟨(.some 4), (.bin .eql (.t 3) (.c (.int .i32 32))), .none⟩, ⟨(.some 5), (.mov (.t 4)), .none⟩, ⟨(.some 6), (.mov (.t 0)), (.some ((.t 5), .false))⟩, ⟨(.some 7), (.bin .eql (.t 6) (.c (.int .i32 9))), (.some ((.t 5), .false))⟩, ⟨(.some 8), (.pick (.t 5) (.c (.bool .true)) (.t 7)), .none⟩, ⟨(.some 9), (.mov (.t 8)), .none⟩, ⟨(.some 10), (.mov (.t 0)), (.some ((.t 9), .false))⟩, ⟨(.some 11), (.bin .eql (.t 10) (.c (.int .i32 10))), (.some ((.t 9), .false))⟩, ⟨(.some 12), (.pick (.t 9) (.c (.bool .true)) (.t 11)), .none⟩, ⟨(.some 2), (.mov (.t 12)), .none⟩]) .ret)), [(.tmp (.t 2))]⟩
theorem e25 : cfn Tryd.prog Tryd.f25 = some c25 := by kernel_rfl
theorem k25 : callable Tryd.prog 25 = true := by kernel_rfl
def c27 : VFn := ⟨9, (.seq (.reg .false [⟨(.some 2), (.mov (.c (.bool .false))), .none⟩]) (.seq (.reg .false [⟨(.some 3), (.mov (.t 0)), .none⟩, ⟨(.some 4), (.bin .geq (.t 3) (.c (.int .i32 48))), .none⟩, ⟨(.some 5), (.mov (.t 4)), .none⟩, ⟨(.some 6), (.mov (.t 0)), (.some ((.t 5), .true))⟩, ⟨(.some 7), (.bin .leq (.t 6) (.c (.int .i32 57))), (.some ((.t 5), .true))⟩, ⟨(.some 8), (.pick (.t 5) (.t 7) (.c (.bool .false))), .none⟩, ⟨(.some 2), (.mov (.t 8)), .none⟩]) .ret)), [(.tmp (.t 2))]⟩
theorem e27 : cfn Tryd.prog Tryd.f27 = some c27 := by kernel_rfl
theorem k27 : callable Tryd.prog 27 = true := by kernel_rfl
def c28 : VFn := ⟨18, (.seq (.reg .false [⟨(.some 2), (.mov (.c (.int .i64 0))), .none⟩]) (.seq (.reg .false [⟨(.some 3), (.mov (.c (.int .i64 0))), .none⟩]) (.seq (.block 0 (.loop (.seq (.seq (.reg .false [⟨(.some 4), (.mov (.t 3)), .none⟩, ⟨(.some 5), (.mov (.t 0)), .none⟩, ⟨(.some 6), (.len .true (.t 5)), .none⟩, ⟨(.some 7), (.bin .lss (.t 4) (.t 6)), .none⟩, ⟨(.some 8), (.mov (.t 7)), .none⟩, ⟨(.some 9), (.mov (.t 0)), (.some ((.t 8), .true))⟩, ⟨(.some 10), (.mov (.t 3)), (.some ((.t 8), .true))⟩, ⟨(.some 11), (.idxS (.t 9) (.t 10)), (.some ((.t 8), .true))⟩, ⟨(.some 12), (.convI .i32 (.t 11)), (.some ((.t 8), .true))⟩, ⟨(.some 13), (.call (.c (.fn 27 [])) [(.t 12)]), (.some ((.t 8), .true))⟩, ⟨(.some 14), (.pick (.t 8) (.t 13) (.c (.bool .false))), .none⟩]) (.cond (.t 14) .skip (.exit 0))) (.block 1 (.reg .false [⟨(.some 15), (.mov (.t 3)), .none⟩, ⟨(.some 16), (.bin .add (.t 15) (.c (.int .i64 1))), .none⟩, ⟨(.some 3), (.mov (.t 16)), .none⟩]))))) (.seq (.reg .false [⟨(.some 17), (.mov (.t 3)), .none⟩, ⟨(.some 2), (.mov (.t 17)), .none⟩]) .ret)))), [(.tmp (.t 2))]⟩
theorem e28 : cfn Tryd.prog Tryd.f28 = some c28 := by kernel_rfl
theorem k28 : callable Tryd.prog 28 = true := by kernel_rfl
def c29 : VFn := ⟨27, (.seq (.reg .false [⟨(.some 2), (.mov (.c (.int .i64 0))), .none⟩, ⟨(.some 3), (.mov (.c (.bool .false))), .none⟩]) (.seq (.seq (.reg .false [⟨(.some 6), (.mov (.t 0)), .none⟩, ⟨(.some 7), (.len .true (.t 6)), .none⟩, ⟨(.some 8), (.bin .gtr (.t 7) (.c (.int .i64 1))), .none⟩, ⟨(.some 9), (.mov (.t 8)), .none⟩, ⟨(.some 10), (.mov (.t 0)), (.some ((.t 9), .true))⟩, ⟨(.some 11), (.idxS (.t 10) (.c (.int .i64 0))), (.some ((.t 9), .true))⟩, ⟨(.some 12), (.bin .eql (.t 11) (.c (.int .u8 48))), (.some ((.t 9), .true))⟩, ⟨(.some 13), (.pick (.t 9) (.t 12) (.c (.bool .false))), .none⟩, ⟨(.some 14), (.mov (.t 13)), .none⟩, ⟨(.some 15), (.mov (.t 0)), (.some ((.t 14), .false))⟩, ⟨(.some 16), (.len .true (.t 15)), (.some ((.t 14), .false))⟩, ⟨(.some 17), (.bin .gtr (.t 16) (.c (.int .i64 13))), (.some ((.t 14), .false))⟩, ⟨(.some 18), (.pick (.t 14) (.c (.bool .true)) (.t 17)), .none⟩]) (.cond (.t 18) (.seq (.reg .false [⟨(.some 2), (.mov (.c (.int .i64 0))), .none⟩, ⟨(.some 3), (.mov (.c (.bool .false))), .none⟩]) .ret) .skip)) (.seq (.reg .false [⟨(.some 20), (.mov (.t 0)), .none⟩, ⟨(.some 21), (.call (.c (.fn 33 [])) [(.t 20)]), .none⟩, ⟨(.some 19), (.mov (.t 21)), .none⟩, ⟨(.some 22), (.ext 0 (.t 19)), .none⟩, ⟨(.some 23), (.ext 1 (.t 19)), .none⟩, ⟨(.some 4), (.mov (.t 22)), .none⟩, ⟨(.some 5), (.mov (.t 23)), .none⟩]) (.seq (.reg .false [⟨(.some 24), (.mov (.t 4)), .none⟩, ⟨(.some 25), (.mov (.t 4)), .none⟩, ⟨(.some 26), (.bin .leq (.t 25) (.c (.int .i64 1099511627776))), .none⟩, ⟨(.some 2), (.mov (.t 24)), .none⟩, ⟨(.some 3), (.mov (.t 26)), .none⟩]) .ret)))), [(.tmp (.t 2)), (.tmp (.t 3))]⟩
theorem e29 : cfn Tryd.prog Tryd.f29 = some c29 := by kernel_rfl
theorem k29 : callable Tryd.prog 29 = true := by kernel_rfl
def c31 : VFn := ⟨18, (.seq (.reg .false [⟨(.some 4), (.mov (.c (.bool .false))), .none⟩]) (.seq (.reg .false [⟨(.some 5), (.mov (.t 0)), .none⟩, ⟨(.some 6), (.len .true (.t 5)), .none⟩, ⟨(.some 7), (.mov (.t 1)), .none⟩, ⟨(.some 8), (.len .true (.t 7)), .none⟩, ⟨(.some 9), (.bin .geq (.t 6) (.t 8)), .none⟩, ⟨(.some 10), (.mov (.t 9)), .none⟩, ⟨(.some 11), (.mov (.t 0)), (.some ((.t 10), .true))⟩, ⟨(.some 12), (.mov (.t 1)), (.some ((.t 10), .true))⟩, ⟨(.some 13), (.len .true (.t 12)), (.some ((.t 10), .true))⟩, ⟨(.some 14), (.sliceS (.t 11) .none (.some (.t 13))), (.some ((.t 10), .true))⟩, ⟨(.some 15), (.mov (.t 1)), (.some ((.t 10), .true))⟩, ⟨(.some 16), (.bin .eql (.t 14) (.t 15)), (.some ((.t 10), .true))⟩, ⟨(.some 17), (.pick (.t 10) (.t 16) (.c (.bool .false))), .none⟩, ⟨(.some 4), (.mov (.t 17)), .none⟩]) .ret)), [(.tmp (.t 4))]⟩
theorem e31 : cfn Tryd.prog Tryd.f31 = some c31 := by kernel_rfl
theorem k31 : callable Tryd.prog 31 = true := by kernel_rfl
end Go.Vc
namespace Go.Vc
/-- a byte's number, 256 where there is none -/
def byt (s : List UInt8) (i : Nat) : Nat := match s[i]? with
  | some b => b.toNat
  | none => 256
theorem byt_lt {s : List UInt8} {i : Nat} : byt s i < 256 ↔ i < s.length := by
  unfold byt
  constructor
  · intro h
    split at h
    · rename_i b hb; exact (List.getElem?_eq_some_iff.1 hb).1
    · omega
  · intro h
    rw [List.getElem?_eq_getElem h]
    exact (s[i]).toNat_lt
def inB (s : List UInt8) (i a b : Nat) : Bool := decide (byt s i < 256) && (decide (a ≤ byt s i) && decide (byt s i ≤ b))
def moreB (s : List UInt8) (i : Nat) : Nat → Bool
  | 0 => true
  | n + 1 => inB s i 128 191 && moreB s (i + 1) n
/-- how many bytes the character has that begins there; 0: none does -/
def sizeR (s : List UInt8) (i : Nat) : Nat :=
  if inB s i 0 127 then 1
  else if inB s i 194 223 && moreB s (i + 1) 1 then 2
  else if (inB s i 224 224 && inB s (i + 1) 160 191 && moreB s (i + 2) 1) || (inB s i 225 236 && moreB s (i + 1) 2) || (inB s i 237 237 && inB s (i + 1) 128 159 && moreB s (i + 2) 1) || (inB s i 238 239 && moreB s (i + 1) 2) then 3
  else if (inB s i 240 240 && inB s (i + 1) 144 191 && moreB s (i + 2) 2) || (inB s i 241 243 && moreB s (i + 1) 3) || (inB s i 244 244 && inB s (i + 1) 128 143 && moreB s (i + 2) 2) then 4
  else 0
/-- the character of so many bytes -/
def runeR (s : List UInt8) (i : Nat) : Nat → Nat
  | 1 => byt s i
  | 2 => 64 * (byt s i - 192) + byt s (i + 1) - 128
  | 3 => 64 * (64 * (byt s i - 224) + byt s (i + 1) - 128) + byt s (i + 2) - 128
  | 4 => 64 * (64 * (64 * (byt s i - 240) + byt s (i + 1) - 128) + byt s (i + 2) - 128) + byt s (i + 3) - 128
  | _ => 0
theorem get_byt {s : List UInt8} {i : Nat} (h : i < s.length) : ((⟨s.toArray⟩ : ByteArray).get! i).toNat = byt s i := by
  unfold byt
  rw [List.getElem?_eq_getElem h]
  simp [ByteArray.get!, getElem!_pos, h]
theorem size_list (s : List UInt8) : (⟨s.toArray⟩ : ByteArray).size = s.length := by simp [ByteArray.size]
set_option maxRecDepth 10000 in
set_option maxHeartbeats 2000000 in
theorem dec_arith (b0 b1 b2 b3 : Nat) (e1 e2 e3 : Bool) (h0 : b0 < 256) (h1 : e1 = true → 128 ≤ b1 ∧ b1 ≤ 191) (h2 : e2 = true → 128 ≤ b2 ∧ b2 ≤ 191) (h3 : e3 = true → 128 ≤ b3 ∧ b3 ≤ 191) (sz : Nat)
    (hsz : sz = if b0 ≤ 127 then 1
      else if (194 ≤ b0 ∧ b0 ≤ 223) ∧ e1 = true then 2
      else if (b0 = 224 ∧ (e1 = true ∧ 160 ≤ b1) ∧ e2 = true) ∨ ((225 ≤ b0 ∧ b0 ≤ 236) ∧ e1 = true ∧ e2 = true) ∨ (b0 = 237 ∧ (e1 = true ∧ b1 ≤ 159) ∧ e2 = true) ∨ ((238 ≤ b0 ∧ b0 ≤ 239) ∧ e1 = true ∧ e2 = true) then 3
      else if (b0 = 240 ∧ (e1 = true ∧ 144 ≤ b1) ∧ e2 = true ∧ e3 = true) ∨ ((241 ≤ b0 ∧ b0 ≤ 243) ∧ e1 = true ∧ e2 = true ∧ e3 = true) ∨ (b0 = 244 ∧ (e1 = true ∧ b1 ≤ 143) ∧ e2 = true ∧ e3 = true) then 4
      else 0) :
    (if b0 < 0x80 then (b0, 1)
      else if b0 / 32 = 6 ∧ e1 = true then (if (b0 % 32) * 64 + b1 % 64 ≥ 0x80 then ((b0 % 32) * 64 + b1 % 64, 2) else (65533, 1))
      else if b0 / 16 = 14 ∧ e1 = true ∧ e2 = true then (if (b0 % 16) * 4096 + (b1 % 64) * 64 + b2 % 64 ≥ 0x800 ∧ ((b0 % 16) * 4096 + (b1 % 64) * 64 + b2 % 64 < 0xD800 ∨ 0xE000 ≤ (b0 % 16) * 4096 + (b1 % 64) * 64 + b2 % 64 ∧ (b0 % 16) * 4096 + (b1 % 64) * 64 + b2 % 64 ≤ 0x10FFFF)
        then ((b0 % 16) * 4096 + (b1 % 64) * 64 + b2 % 64, 3) else (65533, 1))
      else if b0 / 8 = 30 ∧ e1 = true ∧ e2 = true ∧ e3 = true then (if (b0 % 8) * 262144 + (b1 % 64) * 4096 + (b2 % 64) * 64 + b3 % 64 ≥ 0x10000 ∧ ((b0 % 8) * 262144 + (b1 % 64) * 4096 + (b2 % 64) * 64 + b3 % 64 < 0xD800 ∨ 0xE000 ≤ (b0 % 8) * 262144 + (b1 % 64) * 4096 + (b2 % 64) * 64 + b3 % 64 ∧ (b0 % 8) * 262144 + (b1 % 64) * 4096 + (b2 % 64) * 64 + b3 % 64 ≤ 0x10FFFF)
        then ((b0 % 8) * 262144 + (b1 % 64) * 4096 + (b2 % 64) * 64 + b3 % 64, 4) else (65533, 1))
      else ((65533, 1) : Nat × Nat)) =
    if sz = 0 then (65533, 1) else (if sz = 1 then b0 else if sz = 2 then 64 * (b0 - 192) + b1 - 128 else if sz = 3 then 64 * (64 * (b0 - 224) + b1 - 128) + b2 - 128 else 64 * (64 * (64 * (b0 - 240) + b1 - 128) + b2 - 128) + b3 - 128, sz) := by
  cases e1 <;> cases e2 <;> cases e3 <;> (try replace h1 := h1 rfl) <;> (try replace h2 := h2 rfl) <;> (try replace h3 := h3 rfl) <;> simp only [Bool.false_eq_true, true_and, and_true, and_false, false_and, or_false, false_or, if_false] at hsz ⊢
  all_goals
    (repeat' split at hsz) <;> (repeat' split) <;> first | (exfalso; omega) | (apply Prod.ext <;> simp only <;> omega)
theorem valid_nat (n : Nat) : Utf8.valid (n : Int) = decide (n < 0xD800 ∨ 0xE000 ≤ n ∧ n ≤ 0x10FFFF) := by
  unfold Utf8.valid
  rw [Bool.eq_iff_iff]
  simp only [Bool.or_eq_true, Bool.and_eq_true, decide_eq_true_eq]
  omega
set_option maxRecDepth 20000 in
theorem decode_eq (s : List UInt8) (i : Nat) (h : i < s.length) :
    Utf8.decode ⟨s.toArray⟩ i = if sizeR s i = 0 then (65533, 1) else (runeR s i (sizeR s i), sizeR s i) := by
  have h0 := byt_lt.2 h
  have g0 : ((⟨s.toArray⟩ : ByteArray).get! (i + 0)).toNat = byt s i := get_byt h
  have c : ∀ k, (decide (i + k < s.length) && ((⟨s.toArray⟩ : ByteArray).get! (i + k)).toNat / 64 == 2) = inB s (i + k) 128 191 := by
    intro k
    unfold inB
    by_cases hk : i + k < s.length
    · have hb := byt_lt.2 hk
      rw [get_byt hk, decide_eq_true hk, decide_eq_true hb, Bool.true_and, Bool.true_and, Bool.eq_iff_iff]
      simp only [beq_iff_eq, Bool.and_eq_true, decide_eq_true_eq]
      omega
    · have hb : ¬ byt s (i + k) < 256 := fun hh => hk (byt_lt.1 hh)
      rw [decide_eq_false hk, decide_eq_false hb, Bool.false_and, Bool.false_and]
  have gk : ∀ k, inB s (i + k) 128 191 = true → ((⟨s.toArray⟩ : ByteArray).get! (i + k)).toNat = byt s (i + k) ∧ 128 ≤ byt s (i + k) ∧ byt s (i + k) ≤ 191 := by
    intro k hk
    simp only [inB, Bool.and_eq_true, decide_eq_true_eq] at hk
    exact ⟨get_byt (byt_lt.1 hk.1), hk.2.1, hk.2.2⟩
  have inb : ∀ a b, inB s i a b = (decide (a ≤ byt s i) && decide (byt s i ≤ b)) := fun a b => by rw [inB, decide_eq_true h0, Bool.true_and]
  have m1 : moreB s (i + 1) 1 = inB s (i + 1) 128 191 := by simp [moreB]
  have m2 : moreB s (i + 1) 2 = (inB s (i + 1) 128 191 && inB s (i + 2) 128 191) := by simp [moreB]
  have m3 : moreB s (i + 1) 3 = (inB s (i + 1) 128 191 && (inB s (i + 2) 128 191 && inB s (i + 3) 128 191)) := by simp [moreB]
  have m21 : moreB s (i + 2) 1 = inB s (i + 2) 128 191 := by simp [moreB]
  have m22 : moreB s (i + 2) 2 = (inB s (i + 2) 128 191 && inB s (i + 3) 128 191) := by simp [moreB]
  have sub : ∀ a b, 128 ≤ a → b ≤ 191 → inB s (i + 1) a b = (inB s (i + 1) 128 191 && (decide (a ≤ byt s (i + 1)) && decide (byt s (i + 1) ≤ b))) := by
    intro a b ha hb
    unfold inB
    rw [Bool.eq_iff_iff]
    simp only [Bool.and_eq_true, decide_eq_true_eq]
    omega
  have hsz : sizeR s i = if byt s i ≤ 127 then 1
      else if (194 ≤ byt s i ∧ byt s i ≤ 223) ∧ inB s (i + 1) 128 191 = true then 2
      else if (byt s i = 224 ∧ (inB s (i + 1) 128 191 = true ∧ 160 ≤ byt s (i + 1)) ∧ inB s (i + 2) 128 191 = true) ∨ ((225 ≤ byt s i ∧ byt s i ≤ 236) ∧ inB s (i + 1) 128 191 = true ∧ inB s (i + 2) 128 191 = true) ∨
        (byt s i = 237 ∧ (inB s (i + 1) 128 191 = true ∧ byt s (i + 1) ≤ 159) ∧ inB s (i + 2) 128 191 = true) ∨ ((238 ≤ byt s i ∧ byt s i ≤ 239) ∧ inB s (i + 1) 128 191 = true ∧ inB s (i + 2) 128 191 = true) then 3
      else if (byt s i = 240 ∧ (inB s (i + 1) 128 191 = true ∧ 144 ≤ byt s (i + 1)) ∧ inB s (i + 2) 128 191 = true ∧ inB s (i + 3) 128 191 = true) ∨ ((241 ≤ byt s i ∧ byt s i ≤ 243) ∧ inB s (i + 1) 128 191 = true ∧ inB s (i + 2) 128 191 = true ∧ inB s (i + 3) 128 191 = true) ∨
        (byt s i = 244 ∧ (inB s (i + 1) 128 191 = true ∧ byt s (i + 1) ≤ 143) ∧ inB s (i + 2) 128 191 = true ∧ inB s (i + 3) 128 191 = true) then 4
      else 0 := by
    have b1 := fun (e : inB s (i + 1) 128 191 = true) => (gk 1 e).2
    unfold sizeR
    rw [sub 160 191 (by omega) (by omega), sub 128 159 (by omega) (by omega), sub 144 191 (by omega) (by omega), sub 128 143 (by omega) (by omega)]
    simp only [inb, m1, m2, m3, m21, m22]
    cases e1 : inB s (i + 1) 128 191 <;> cases e2 : inB s (i + 2) 128 191 <;> cases e3 : inB s (i + 3) 128 191 <;> (try replace b1 := b1 e1) <;>
      simp only [Bool.false_and, Bool.true_and, Bool.and_false, Bool.and_true, Bool.or_false, Bool.false_or, Bool.false_eq_true, Bool.or_eq_true, Bool.and_eq_true, decide_eq_true_eq, and_false, false_and, and_true, true_and, or_false, if_false] <;>
      (repeat' split) <;> first | rfl | (exfalso; omega)
  have key := dec_arith (byt s i) (byt s (i + 1)) (byt s (i + 2)) (byt s (i + 3)) (inB s (i + 1) 128 191) (inB s (i + 2) 128 191) (inB s (i + 3) 128 191) h0 (fun e => (gk 1 e).2) (fun e => (gk 2 e).2) (fun e => (gk 3 e).2) (sizeR s i) hsz
  have hr : (if sizeR s i = 0 then (65533, 1) else (runeR s i (sizeR s i), sizeR s i) : Nat × Nat) = if sizeR s i = 0 then (65533, 1) else (if sizeR s i = 1 then byt s i else if sizeR s i = 2 then 64 * (byt s i - 192) + byt s (i + 1) - 128 else
      if sizeR s i = 3 then 64 * (64 * (byt s i - 224) + byt s (i + 1) - 128) + byt s (i + 2) - 128 else 64 * (64 * (64 * (byt s i - 240) + byt s (i + 1) - 128) + byt s (i + 2) - 128) + byt s (i + 3) - 128, sizeR s i) := by
    have : sizeR s i = 0 ∨ sizeR s i = 1 ∨ sizeR s i = 2 ∨ sizeR s i = 3 ∨ sizeR s i = 4 := by
      rw [hsz]; (repeat' split) <;> omega
    rcases this with e | e | e | e | e
    · rw [if_pos e, if_pos e]
    · rw [if_neg (by omega), if_neg (by omega), if_pos e, e]; rfl
    · rw [if_neg (by omega), if_neg (by omega), if_neg (by omega), if_pos e, e]; rfl
    · rw [if_neg (by omega), if_neg (by omega), if_neg (by omega), if_neg (by omega), if_pos e, e]; rfl
    · rw [if_neg (by omega), if_neg (by omega), if_neg (by omega), if_neg (by omega), if_neg (by omega), e]; rfl
  rw [hr, ← key]
  unfold Utf8.decode
  simp only [size_list, g0, c, valid_nat, Utf8.runeError]
  cases e1 : inB s (i + 1) 128 191 <;> cases e2 : inB s (i + 2) 128 191 <;> cases e3 : inB s (i + 3) 128 191 <;>
    (try rw [(gk 1 e1).1]) <;> (try rw [(gk 2 e2).1]) <;> (try rw [(gk 3 e3).1]) <;>
    simp only [Bool.false_and, Bool.true_and, Bool.and_false, Bool.and_true, Bool.false_eq_true, Bool.and_eq_true, decide_eq_true_eq, beq_iff_eq, and_false, false_and, and_true, true_and, if_false]
end Go.Vc
namespace Go.Vc
theorem sizeR_cases (s : List UInt8) (i : Nat) : sizeR s i = 0 ∨ (sizeR s i = 1 ∧ byt s i ≤ 127) ∨ (sizeR s i = 2 ∧ 194 ≤ byt s i ∧ byt s i ≤ 223 ∧ 128 ≤ byt s (i + 1) ∧ byt s (i + 1) ≤ 191) ∨
    (sizeR s i = 3 ∧ 224 ≤ byt s i ∧ byt s i ≤ 239 ∧ 128 ≤ byt s (i + 1) ∧ byt s (i + 1) ≤ 191 ∧ 128 ≤ byt s (i + 2) ∧ byt s (i + 2) ≤ 191) ∨
    (sizeR s i = 4 ∧ 240 ≤ byt s i ∧ byt s i ≤ 244 ∧ 128 ≤ byt s (i + 1) ∧ byt s (i + 1) ≤ 191 ∧ 128 ≤ byt s (i + 2) ∧ byt s (i + 2) ≤ 191 ∧ 128 ≤ byt s (i + 3) ∧ byt s (i + 3) ≤ 191) := by
  unfold sizeR
  repeat' split
  all_goals (simp [inB, moreB, Nat.add_assoc] at *)
  all_goals omega
theorem byt_some {s : List UInt8} {i : Nat} (h : byt s i ≤ 255) : i < s.length := byt_lt.1 (by omega)
theorem sizeR_le {s : List UInt8} {i : Nat} (h : i < s.length) : i + sizeR s i ≤ s.length := by
  rcases sizeR_cases s i with h | h | h | h | h
  · omega
  · omega
  · have := byt_some (s := s) (i := i + 1) (by omega); omega
  · have := byt_some (s := s) (i := i + 2) (by omega); omega
  · have := byt_some (s := s) (i := i + 3) (by omega); omega
theorem sizeR_ascii {s : List UInt8} {i : Nat} (h : byt s i ≤ 127) : sizeR s i = 1 := by
  have : inB s i 0 127 = true := by simp [inB]; omega
  simp [sizeR, this]
/-- the first place at which no character stands -/
def badI (s : List UInt8) (at' : Nat) : Option Nat :=
  if h : at' < s.length then (if hz : sizeR s at' = 0 then some at' else badI s (at' + sizeR s at')) else none
termination_by s.length - at'
theorem badI_end {s : List UInt8} {i : Nat} (h : ¬ i < s.length) : badI s i = none := by rw [badI, dif_neg h]
theorem badI_bad {s : List UInt8} {i : Nat} (h : i < s.length) (hz : sizeR s i = 0) : badI s i = some i := by rw [badI, dif_pos h, dif_pos hz]
theorem badI_step {s : List UInt8} {i : Nat} (h : i < s.length) (hz : sizeR s i ≠ 0) : badI s i = badI s (i + sizeR s i) := by rw [badI.eq_def s i, dif_pos h, dif_neg hz]
/-- how many digits stand at the beginning -/
def digLen : List UInt8 → Nat
  | [] => 0
  | b :: l => if 48 ≤ b.toNat ∧ b.toNat ≤ 57 then digLen l + 1 else 0
theorem digLen_le : ∀ l, digLen l ≤ l.length
  | [] => by simp [digLen]
  | b :: l => by
    have := digLen_le l
    simp only [digLen]
    split <;> simp <;> omega
/-- a number -/
def numR (l : List UInt8) : Nat := l.foldl (fun n b => 10 * n + (b.toNat - 48)) 0
structure Tk where
  kind : Int
  sign : Int
  n : Int
  at' : Int
  deriving DecidableEq
inductive Res where
  | ok (l : List Tk)
  | bad (i : Nat)
def Res.cons (t : Tk) : Res → Res
  | .ok l => .ok (t :: l)
  | .bad i => .bad i
def Res.app (p : List Tk) : Res → Res
  | .ok l => .ok (p ++ l)
  | .bad i => .bad i
/-- the digits that stand there -/
def digsAt (s : List UInt8) (i : Nat) : List UInt8 := (s.drop i).take (digLen (s.drop i))
def numBad (l : List UInt8) : Bool := decide (numR l > 1099511627776) || (decide (l.head? = some 48) && decide (l.length > 1))
theorem digLen_pos {s : List UInt8} {i : Nat} (h1 : 48 ≤ byt s i) (h2 : byt s i ≤ 57) : 0 < digLen (s.drop i) := by
  have hl := byt_some (s := s) (i := i) (by omega)
  rw [List.drop_eq_getElem_cons hl, digLen]
  have : byt s i = (s[i]).toNat := by simp [byt, hl]
  rw [if_pos (by omega)]
  omega
/-- the tokens from there on; c: within a comment -/
def ofI (s : List UInt8) (c : Bool) (i : Nat) : Res :=
  if h : i < s.length then
    if hz : sizeR s i = 0 then .bad i
    else if c then ofI s (decide (byt s i ≠ 10)) (i + sizeR s i)
    else if byt s i = 35 then ofI s true (i + 1)
    else if byt s i = 32 ∨ byt s i = 9 ∨ byt s i = 10 then ofI s false (i + 1)
    else if hd : 48 ≤ byt s i ∧ byt s i ≤ 57 then
      if numBad (digsAt s i) then .bad i
      else (ofI s false (i + digLen (s.drop i))).cons ⟨2, 0, numR (digsAt s i), i⟩
    else (ofI s false (i + sizeR s i)).cons ⟨1, runeR s i (sizeR s i), 0, i⟩
  else .ok []
termination_by s.length - i
decreasing_by
  all_goals (try have := digLen_pos hd.1 hd.2)
  all_goals omega
/-- what a range over a text finds -/
def decR (s : List UInt8) (i : Nat) : Nat × Nat := if sizeR s i = 0 then (65533, 1) else (runeR s i (sizeR s i), sizeR s i)
theorem decR_pos (s : List UInt8) (i : Nat) : 0 < (decR s i).2 := by
  unfold decR; split <;> simp <;> omega
/-- where the line ends -/
def lineEnd (s : List UInt8) (i : Nat) : Nat := match (s.drop i).findIdx? (· == 10) with
  | some k => i + k
  | none => s.length
/-- the number of a token -/
def numT (l : List UInt8) : Int := if numBad l then -1 else numR l
/-- the next token, and up to where characters are read already -/
def nextI (s : List UInt8) (skip i c : Nat) : Option Tk × Nat :=
  if i < skip ∨ c = 32 ∨ c = 9 ∨ c = 10 then (none, skip)
  else if c = 35 then (none, lineEnd s i)
  else if 48 ≤ c ∧ c ≤ 57 then (some ⟨2, 0, numT (digsAt s i), i⟩, i + digLen (s.drop i))
  else (some ⟨1, c, 0, i⟩, skip)
/-- the code's tokens: 'skip' is up to where characters are read already -/
def allI (s : List UInt8) (skip : Nat) (i : Nat) : List Tk :=
  if h : i < s.length then
    have := decR_pos s i
    (nextI s skip i (decR s i).1).1.toList ++ allI s (nextI s skip i (decR s i).1).2 (i + (decR s i).2)
  else []
termination_by s.length - i
/-- what becomes of the code's tokens -/
def fromT : List Tk → Res
  | [] => .ok []
  | t :: l => if t.n < 0 then .bad t.at'.toNat else (fromT l).cons t
/-- the code's answer -/
def ofC (s : List UInt8) : Res := match badI s 0 with
  | none => fromT (allI s 0 0)
  | some e => match fromT (allI (s.take e) 0 0) with
    | .ok _ => .bad e
    | .bad p => .bad p
end Go.Vc
namespace Go.Vc
open Go.Proofs
abbrev vI (n : Int) : V := .int .i64 n
theorem idx_byt {s : List UInt8} {i : Nat} (h : i < s.length) : idxSV (.str s) (vI i) = some (.int .u8 (byt s i)) := by
  unfold idxSV byt
  simp [h]
def isWhite (c : Int) : Bool := decide (c = 32) || (decide (c = 9) || decide (c = 10))
theorem white_c (c : Int) : PFun Tryd.prog 25 [.int .i32 c] (.bool (isWhite c)) := fun σ => by
  refine Contract.of_runs Tryd.func25 e25 k25 (by simp [c25]) ?_
  refine Runs.mix 2 ?_
  (refine Runs.of_step Orc.nothing 300 ?_; simp -implicitDefEqProofs only [BB, effR_some, effD_some, Int.reduceEq, Int.reduceNe, Int.reduceLT, Int.reduceLE, Int.reduceGT, Int.reduceGE, Nat.reduceEqDiff, Nat.reduceAdd, Nat.reduceMul, Nat.reduceLeDiff, Nat.reduceSub, Nat.reduceLT, Nat.reduceBEq, ↓reduceIte, reduceCtorEq, ← decide_not, okind, vpre, vpure, intBin, intPre, strBin, strPre, popTo, argSlots, fldV, fldAV, subCells, idxVV, idxAAV, idxSV, sliceV, sliceSV, boundV, szIs, storeOp, storeS, setRowV, eff, extV, buildV, splice, eqSV, fitsL, eqCells, eqCell, minmaxV, capV, binBV, nilCheckV, bytesV, V.cells, V.stays, Orc.nothing, c25])
  refine And.intro (fun h => And.intro (fun h2 => ?_) (fun h2 => ?_)) (fun h => ?_)
  all_goals exact RetV.same (by simp [isWhite, h, *])
def isDig (c : Int) : Bool := decide (c ≥ 48 ∧ c ≤ 57)
theorem digit_c (c : Int) : PFun Tryd.prog 27 [.int .i32 c] (.bool (isDig c)) := fun σ => by
  refine Contract.of_runs Tryd.func27 e27 k27 (by simp [c27]) ?_
  refine Runs.mix 2 ?_
  (refine Runs.of_step Orc.nothing 300 ?_; simp -implicitDefEqProofs only [BB, effR_some, effD_some, Int.reduceEq, Int.reduceNe, Int.reduceLT, Int.reduceLE, Int.reduceGT, Int.reduceGE, Nat.reduceEqDiff, Nat.reduceAdd, Nat.reduceMul, Nat.reduceLeDiff, Nat.reduceSub, Nat.reduceLT, Nat.reduceBEq, ↓reduceIte, reduceCtorEq, ← decide_not, okind, vpre, vpure, intBin, intPre, strBin, strPre, popTo, argSlots, fldV, fldAV, subCells, idxVV, idxAAV, idxSV, sliceV, sliceSV, boundV, szIs, storeOp, storeS, setRowV, eff, extV, buildV, splice, eqSV, fitsL, eqCells, eqCell, minmaxV, capV, binBV, nilCheckV, bytesV, V.cells, V.stays, Orc.nothing, c27])
  constructor <;> intro h <;> exact RetV.same (by simp [h, isDig])
/-- what these answer -/
def Orc.one {P : Program} (O : Orc P) (f0 : FuncId) (g : List V → Option V) (h : ∀ args v, g args = some v → PFun P f0 args v) : Orc P where
  get f args σ := if f = f0 then g args else O.get f args σ
  up f args σ σ' v hs hv := by
    split at hv
    · rename_i hf; rw [if_pos hf]; exact hv
    · rename_i hf; rw [if_neg hf]; exact O.up f args σ σ' v hs hv
  ok f args σ v hv := by
    split at hv
    · rename_i hf; subst hf; exact h args v hv σ
    · exact O.ok f args σ v hv
end Go.Vc
namespace Go.Vc
open Go.Proofs
theorem inR_i32 {n : Int} (h1 : -2147483648 ≤ n) (h2 : n < 2147483648) : inR .i32 n := by
  unfold inR
  rw [IntKind.wrap_i32]
  omega
end Go.Vc
namespace Go.Vc
open Go.Proofs
def isPre (a b : List UInt8) : Bool := decide (b.length ≤ a.length) && decide (a.take b.length = b)
theorem prefix31_c (a b : List UInt8) : PFun Tryd.prog 31 [.str a, .str b] (.bool (isPre a b)) := fun σ => by
  refine Contract.of_runs Tryd.func31 e31 k31 (by simp [c31]) ?_
  refine Runs.mix 5 ?_
  by_cases h : b.length ≤ a.length
  · have h1 : ((a.length : Int) ≥ (b.length : Int)) = True := by simp; omega
    have h2 : sliceSV (.str a) none (some (vI b.length)) = some (.str (a.take b.length)) := by
      simp only [sliceSV, boundV]
      rw [if_pos (by omega)]
      simp
    (refine Runs.of_step Orc.nothing 300 ?_; simp -implicitDefEqProofs only [BB, effR_some, effD_some, Int.reduceEq, Int.reduceNe, Int.reduceLT, Int.reduceLE, Int.reduceGT, Int.reduceGE, Nat.reduceEqDiff, Nat.reduceAdd, Nat.reduceMul, Nat.reduceLeDiff, Nat.reduceSub, Nat.reduceLT, Nat.reduceBEq, ↓reduceIte, reduceCtorEq, ← decide_not, okind, vpre, vpure, intBin, intPre, strBin, strPre, popTo, argSlots, fldV, fldAV, subCells, idxVV, idxAAV, idxSV, sliceV, boundV, szIs, storeOp, storeS, setRowV, eff, extV, buildV, splice, eqSV, fitsL, eqCells, eqCell, minmaxV, capV, binBV, nilCheckV, bytesV, V.cells, V.stays, Orc.nothing, c31, h1, h2])
    exact RetV.same (by simp [isPre, h])
  · have h1 : ((a.length : Int) ≥ (b.length : Int)) = False := by simp; omega
    (refine Runs.of_step Orc.nothing 300 ?_; simp -implicitDefEqProofs only [BB, effR_some, effD_some, Int.reduceEq, Int.reduceNe, Int.reduceLT, Int.reduceLE, Int.reduceGT, Int.reduceGE, Nat.reduceEqDiff, Nat.reduceAdd, Nat.reduceMul, Nat.reduceLeDiff, Nat.reduceSub, Nat.reduceLT, Nat.reduceBEq, ↓reduceIte, reduceCtorEq, ← decide_not, okind, vpre, vpure, intBin, intPre, strBin, strPre, popTo, argSlots, fldV, fldAV, subCells, idxVV, idxAAV, idxSV, sliceV, sliceSV, boundV, szIs, storeOp, storeS, setRowV, eff, extV, buildV, splice, eqSV, fitsL, eqCells, eqCell, minmaxV, capV, binBV, nilCheckV, bytesV, V.cells, V.stays, Orc.nothing, c31, h1])
    exact RetV.same (by simp [isPre, h])
theorem prefix_c (a b : List UInt8) : PFun Tryd.prog 22 [.str a, .str b] (.bool (isPre a b)) := fun σ => by
  refine Contract.of_runs Tryd.func22 e22 k22 (by simp [c22]) ?_
  refine Runs.mix 5 ?_
  (refine Runs.of_step Orc.nothing 300 ?_; simp -implicitDefEqProofs only [BB, effR_some, effD_some, Int.reduceEq, Int.reduceNe, Int.reduceLT, Int.reduceLE, Int.reduceGT, Int.reduceGE, Nat.reduceEqDiff, Nat.reduceAdd, Nat.reduceMul, Nat.reduceLeDiff, Nat.reduceSub, Nat.reduceLT, Nat.reduceBEq, ↓reduceIte, reduceCtorEq, ← decide_not, okind, vpre, vpure, intBin, intPre, strBin, strPre, popTo, argSlots, fldV, fldAV, subCells, idxVV, idxAAV, idxSV, sliceV, sliceSV, boundV, szIs, storeOp, storeS, setRowV, eff, extV, buildV, splice, eqSV, fitsL, eqCells, eqCell, minmaxV, capV, binBV, nilCheckV, bytesV, V.cells, V.stays, Orc.nothing, c22])
  refine Runs.pcall rfl rfl rfl (prefix31_c a b σ) ?_
  (refine Runs.of_step Orc.nothing 300 ?_; simp -implicitDefEqProofs only [BB, effR_some, effD_some, Int.reduceEq, Int.reduceNe, Int.reduceLT, Int.reduceLE, Int.reduceGT, Int.reduceGE, Nat.reduceEqDiff, Nat.reduceAdd, Nat.reduceMul, Nat.reduceLeDiff, Nat.reduceSub, Nat.reduceLT, Nat.reduceBEq, ↓reduceIte, reduceCtorEq, ← decide_not, okind, vpre, vpure, intBin, intPre, strBin, strPre, popTo, argSlots, fldV, fldAV, subCells, idxVV, idxAAV, idxSV, sliceV, sliceSV, boundV, szIs, storeOp, storeS, setRowV, eff, extV, buildV, splice, eqSV, fitsL, eqCells, eqCell, minmaxV, capV, binBV, nilCheckV, bytesV, V.cells, V.stays, Orc.nothing])
  exact RetV.same rfl
def g27 : List V → Option V
  | [.int .i32 c] => some (.bool (isDig c))
  | _ => none
def OE4 : Orc Tryd.prog := Orc.nothing.one 27 g27 fun args v h => by
  unfold g27 at h
  split at h
  · simp only [Option.some.injEq] at h; subst h; exact digit_c _
  · cases h
theorem OE4_27 (c : Int) (σ : Store) : OE4.get 27 [.int .i32 c] σ = some (.bool (isDig c)) := rfl
theorem digits_c (s : List UInt8) (hs : s.length ≤ 1000000000) : PFun Tryd.prog 28 [.str s] (vI (digLen s)) := fun σ => by
  refine Contract.of_runs Tryd.func28 e28 k28 (by simp [c28]) ?_
  refine Runs.mix 4 ?_
  (refine Runs.of_step Orc.nothing 300 ?_; simp -implicitDefEqProofs only [BB, effR_some, effD_some, Int.reduceEq, Int.reduceNe, Int.reduceLT, Int.reduceLE, Int.reduceGT, Int.reduceGE, Nat.reduceEqDiff, Nat.reduceAdd, Nat.reduceMul, Nat.reduceLeDiff, Nat.reduceSub, Nat.reduceLT, Nat.reduceBEq, ↓reduceIte, reduceCtorEq, ← decide_not, okind, vpre, vpure, intBin, intPre, strBin, strPre, popTo, argSlots, fldV, fldAV, subCells, idxVV, idxAAV, idxSV, sliceV, sliceSV, boundV, szIs, storeOp, storeS, setRowV, eff, extV, buildV, splice, eqSV, fitsL, eqCells, eqCell, minmaxV, capV, binBV, nilCheckV, bytesV, V.cells, V.stays, Orc.nothing, c28])
  refine Runs.loop (fun m st => ∃ j : Nat, j ≤ s.length ∧ m = s.length - j ∧ digLen s = j + digLen (s.drop j) ∧ st.σ = σ ∧ st.s 0 = .str s ∧ st.s 3 = vI j) s.length ?_ ?_
  · exact ⟨0, by omega, by omega, by simp, rfl, rfl, rfl⟩
  · rintro m ⟨s', σ'⟩ ⟨j, hj, rfl, hp, hσ, h0, h3⟩
    simp only at h0 h3 hσ
    subst hσ
    refine Runs.mix 4 ?_
    by_cases hlt : j < s.length
    · have hlt' : ((j : Int) < (s.length : Int)) = True := by simp; omega
      have hx := idx_byt hlt
      have hbl : byt s j < 256 := byt_lt.2 hlt
      have hr : inR .i32 (byt s j : Int) := inR_i32 (by omega) (by omega)
      have hd : digLen (s.drop j) = if 48 ≤ byt s j ∧ byt s j ≤ 57 then digLen (s.drop (j + 1)) + 1 else 0 := by
        rw [List.drop_eq_getElem_cons hlt, digLen]
        simp [byt, hlt]
      have hin : inR .i64 ((j : Int) + 1) := inR_i64 (by omega) (by omega)
      by_cases hb : 48 ≤ byt s j ∧ byt s j ≤ 57
      · have hq : OE4.get 27 [.int .i32 (byt s j : Int)] σ' = some (.bool true) := by rw [OE4_27]; simp [isDig]; omega
        (refine Runs.of_step OE4 300 ?_; simp -implicitDefEqProofs only [BB, effR_some, effD_some, Int.reduceEq, Int.reduceNe, Int.reduceLT, Int.reduceLE, Int.reduceGT, Int.reduceGE, Nat.reduceEqDiff, Nat.reduceAdd, Nat.reduceMul, Nat.reduceLeDiff, Nat.reduceSub, Nat.reduceLT, Nat.reduceBEq, ↓reduceIte, reduceCtorEq, ← decide_not, okind, vpre, vpure, intBin, intPre, strBin, strPre, popTo, argSlots, fldV, fldAV, subCells, idxVV, idxAAV, sliceV, sliceSV, boundV, szIs, storeOp, storeS, setRowV, eff, extV, buildV, splice, eqSV, fitsL, eqCells, eqCell, minmaxV, capV, binBV, nilCheckV, bytesV, V.cells, V.stays, h0, h3, hlt', hx, hr, hq, hin])
        rw [if_pos hb] at hd
        exact ⟨_, by omega, j + 1, by omega, rfl, by omega, by simp⟩
      · have hq : OE4.get 27 [.int .i32 (byt s j : Int)] σ' = some (.bool false) := by rw [OE4_27]; simp [isDig]; omega
        (refine Runs.of_step OE4 300 ?_; simp -implicitDefEqProofs only [BB, effR_some, effD_some, Int.reduceEq, Int.reduceNe, Int.reduceLT, Int.reduceLE, Int.reduceGT, Int.reduceGE, Nat.reduceEqDiff, Nat.reduceAdd, Nat.reduceMul, Nat.reduceLeDiff, Nat.reduceSub, Nat.reduceLT, Nat.reduceBEq, ↓reduceIte, reduceCtorEq, ← decide_not, okind, vpre, vpure, intBin, intPre, strBin, strPre, popTo, argSlots, fldV, fldAV, subCells, idxVV, idxAAV, sliceV, sliceSV, boundV, szIs, storeOp, storeS, setRowV, eff, extV, buildV, splice, eqSV, fitsL, eqCells, eqCell, minmaxV, capV, binBV, nilCheckV, bytesV, V.cells, V.stays, h0, h3, hlt', hx, hr, hq, hin])
        rw [if_neg hb] at hd
        exact RetV.same (by simp only [vI, V.int.injEq, true_and]; omega)
    · have hlt' : ((j : Int) < (s.length : Int)) = False := by simp; omega
      (refine Runs.of_step Orc.nothing 300 ?_; simp -implicitDefEqProofs only [BB, effR_some, effD_some, Int.reduceEq, Int.reduceNe, Int.reduceLT, Int.reduceLE, Int.reduceGT, Int.reduceGE, Nat.reduceEqDiff, Nat.reduceAdd, Nat.reduceMul, Nat.reduceLeDiff, Nat.reduceSub, Nat.reduceLT, Nat.reduceBEq, ↓reduceIte, reduceCtorEq, ← decide_not, okind, vpre, vpure, intBin, intPre, strBin, strPre, popTo, argSlots, fldV, fldAV, subCells, idxVV, idxAAV, idxSV, sliceV, sliceSV, boundV, szIs, storeOp, storeS, setRowV, eff, extV, buildV, splice, eqSV, fitsL, eqCells, eqCell, minmaxV, capV, binBV, nilCheckV, bytesV, V.cells, V.stays, Orc.nothing, h0, h3, hlt'])
      refine RetV.same ?_
      rw [hp, List.drop_eq_nil_of_le (by omega)]
      simp [digLen]
/-- what 'Text' tells -/
def textV : Option Nat → V
  | some p => .tup [vI p, .bool false]
  | none => .tup [vI 0, .bool true]
def g19 : List V → Option V
  | [.str s, .int .i64 i] => if 0 ≤ i ∧ i ≤ 100000000 then some (vI (sizeR s i.toNat)) else none
  | _ => none
end Go.Vc
namespace Go.Vc
open Go.Proofs
theorem decode_decR {s : List UInt8} {i : Nat} (h : i < s.length) : Utf8.decode ⟨s.toArray⟩ i = decR s i := decode_eq s i h
theorem decR_le {s : List UInt8} {i : Nat} (h : i < s.length) : i + (decR s i).2 ≤ s.length := by
  have := sizeR_le h
  unfold decR
  split
  · simp; omega
  · exact this
theorem runeR_lt (s : List UInt8) (i : Nat) : runeR s i (sizeR s i) ≤ 2200000 := by
  rcases sizeR_cases s i with h | h | h | h | h
  · rw [h]; show 0 ≤ _; omega
  · rw [h.1]; show byt s i ≤ _; omega
  · rw [h.1]; show 64 * (byt s i - 192) + byt s (i + 1) - 128 ≤ _; omega
  · rw [h.1]; show 64 * (64 * (byt s i - 224) + byt s (i + 1) - 128) + byt s (i + 2) - 128 ≤ _; omega
  · rw [h.1]; show 64 * (64 * (64 * (byt s i - 240) + byt s (i + 1) - 128) + byt s (i + 2) - 128) + byt s (i + 3) - 128 ≤ _; omega
theorem byt_get {s : List UInt8} {i : Nat} (h : i < s.length) : (s[i]).toNat = byt s i := by simp [byt, h]
theorem isPre_lost {s : List UInt8} {i : Nat} (hi : i < s.length) : isPre (s.drop i) [239, 191, 189] = (decide (byt s i = 239) && decide (byt s (i + 1) = 191) && decide (byt s (i + 2) = 189)) := by
  rw [Bool.eq_iff_iff]
  simp only [isPre, Bool.and_eq_true, decide_eq_true_eq, List.length_cons, List.length_nil, List.length_drop]
  constructor
  · rintro ⟨h1, h2⟩
    have e1 : i + 1 < s.length := by omega
    have e2 : i + 2 < s.length := by omega
    rw [List.drop_eq_getElem_cons hi, List.drop_eq_getElem_cons e1, List.drop_eq_getElem_cons e2] at h2
    simp only [List.take_succ_cons, List.take_zero, List.cons.injEq, and_true] at h2
    obtain ⟨g1, g2, g3⟩ := h2
    rw [← byt_get hi, ← byt_get e1, ← byt_get e2, g1, g2, g3]
    exact ⟨⟨rfl, rfl⟩, rfl⟩
  · rintro ⟨⟨h1, h2⟩, h3⟩
    have e1 : i + 1 < s.length := byt_some (by omega)
    have e2 : i + 2 < s.length := byt_some (by omega)
    refine ⟨by omega, ?_⟩
    rw [List.drop_eq_getElem_cons hi, List.drop_eq_getElem_cons e1, List.drop_eq_getElem_cons e2]
    simp only [List.take_succ_cons, List.take_zero]
    rw [← byt_get hi] at h1
    rw [← byt_get e1] at h2
    rw [← byt_get e2] at h3
    have q1 : s[i] = 239 := UInt8.toNat.inj h1
    have q2 : s[i + 1] = 191 := UInt8.toNat.inj h2
    have q3 : s[i + 2] = 189 := UInt8.toNat.inj h3
    rw [q1, q2, q3]
theorem lost_iff {s : List UInt8} {i : Nat} (hi : i < s.length) : ((decR s i).1 = 65533 ∧ isPre (s.drop i) [239, 191, 189] = false) ↔ sizeR s i = 0 := by
  rw [isPre_lost hi]
  unfold decR
  constructor
  · rintro ⟨h1, h2⟩
    refine Classical.byContradiction fun hz => ?_
    rw [if_neg hz] at h1
    rcases sizeR_cases s i with h | h | h | h | h
    · exact hz h
    · rw [h.1] at h1; have : byt s i = 65533 := h1; omega
    · rw [h.1] at h1; have : 64 * (byt s i - 192) + byt s (i + 1) - 128 = 65533 := h1; omega
    · rw [h.1] at h1; have : 64 * (64 * (byt s i - 224) + byt s (i + 1) - 128) + byt s (i + 2) - 128 = 65533 := h1
      have a1 : byt s i = 239 := by omega
      have a2 : byt s (i + 1) = 191 := by omega
      have a3 : byt s (i + 2) = 189 := by omega
      simp [a1, a2, a3] at h2
    · rw [h.1] at h1; have : 64 * (64 * (64 * (byt s i - 240) + byt s (i + 1) - 128) + byt s (i + 2) - 128) + byt s (i + 3) - 128 = 65533 := h1
      have h4 := h.2
      have := sizeR s i
      have hs4 := h.1
      have : 64 ≤ 64 * (byt s i - 240) + byt s (i + 1) - 128 → False := fun _ => by omega
      have b0 : byt s i = 240 := by omega
      have hq : sizeR s i = 4 := hs4
      unfold sizeR at hq
      simp [inB, moreB, b0] at hq
      omega
  · intro hz
    rw [if_pos hz]
    refine ⟨rfl, ?_⟩
    rw [Bool.eq_false_iff]
    intro h
    simp only [Bool.and_eq_true, decide_eq_true_eq] at h
    obtain ⟨⟨h1, h2⟩, h3⟩ := h
    unfold sizeR at hz
    simp [inB, moreB, h1, h2, Nat.add_assoc, h3] at hz
set_option maxRecDepth 100000 in
theorem text_c (s : List UInt8) (hs : s.length ≤ 10000000) : PFun Tryd.prog 9 [.str s] (textV (badI s 0)) := fun σ => by
  refine Contract.of_runs Tryd.func9 e9 k9 (by simp [c9]) ?_
  refine Runs.mix 8 ?_
  (refine Runs.of_step Orc.nothing 300 ?_; simp -implicitDefEqProofs only [BB, effR_some, effD_some, Int.reduceEq, Int.reduceNe, Int.reduceLT, Int.reduceLE, Int.reduceGT, Int.reduceGE, Nat.reduceEqDiff, Nat.reduceAdd, Nat.reduceMul, Nat.reduceLeDiff, Nat.reduceSub, Nat.reduceLT, Nat.reduceBEq, ↓reduceIte, reduceCtorEq, ← decide_not, okind, vpre, vpure, intBin, intPre, strBin, strPre, popTo, argSlots, fldV, fldAV, subCells, idxVV, idxAAV, idxSV, sliceV, sliceSV, boundV, szIs, storeOp, storeS, setRowV, eff, extV, buildV, splice, eqSV, fitsL, eqCells, eqCell, minmaxV, capV, binBV, nilCheckV, bytesV, V.cells, V.stays, Orc.nothing, c9])
  refine Runs.rngS rfl rfl rfl fun id hid => ?_
  have hid : σ id = none := hid
  (refine Runs.of_step Orc.nothing 300 ?_; simp -implicitDefEqProofs only [BB, effR_some, effD_some, Int.reduceEq, Int.reduceNe, Int.reduceLT, Int.reduceLE, Int.reduceGT, Int.reduceGE, Nat.reduceEqDiff, Nat.reduceAdd, Nat.reduceMul, Nat.reduceLeDiff, Nat.reduceSub, Nat.reduceLT, Nat.reduceBEq, ↓reduceIte, reduceCtorEq, ← decide_not, okind, vpre, vpure, intBin, intPre, strBin, strPre, popTo, argSlots, fldV, fldAV, subCells, idxVV, idxAAV, idxSV, sliceV, sliceSV, boundV, szIs, storeOp, storeS, setRowV, eff, extV, buildV, splice, eqSV, fitsL, eqCells, eqCell, minmaxV, capV, binBV, nilCheckV, bytesV, V.cells, V.stays, Orc.nothing])
  refine Runs.loop (fun m st => ∃ j : Nat, j ≤ s.length ∧ m = s.length - j ∧ badI s 0 = badI s j ∧ SubStore σ st.σ ∧ st.σ id = some (gh (.stringIter ⟨s.toArray⟩ j)) ∧ st.s 0 = .str s ∧ st.s 7 = .gp id) s.length ?_ ?_
  · exact ⟨0, by omega, by omega, rfl, (SubStore.refl σ).updK hid, upd_same, rfl, rfl⟩
  · rintro m ⟨s', σ'⟩ ⟨j, hj, rfl, hp, hsub, hrow, h0, h7⟩
    simp only at h0 h7 hrow hsub
    refine Runs.mix 8 ?_
    (refine Runs.of_step Orc.nothing 300 ?_; simp -implicitDefEqProofs only [BB, effR_some, effD_some, Int.reduceEq, Int.reduceNe, Int.reduceLT, Int.reduceLE, Int.reduceGT, Int.reduceGE, Nat.reduceEqDiff, Nat.reduceAdd, Nat.reduceMul, Nat.reduceLeDiff, Nat.reduceSub, Nat.reduceLT, Nat.reduceBEq, ↓reduceIte, reduceCtorEq, ← decide_not, okind, vpre, vpure, intBin, intPre, strBin, strPre, popTo, argSlots, fldV, fldAV, subCells, idxVV, idxAAV, idxSV, sliceV, sliceSV, boundV, szIs, storeOp, storeS, setRowV, eff, extV, buildV, splice, eqSV, fitsL, eqCells, eqCell, minmaxV, capV, binBV, nilCheckV, bytesV, V.cells, V.stays, Orc.nothing])
    refine Runs.nxtS rfl rfl h7 hrow (fun hlt => ?_) (fun hlt => ?_)
    · rw [decode_decR hlt]
      have hle := decR_le hlt
      have hpos := decR_pos s j
      have hli := lost_iff hlt
      have hbd := @badI_bad s j hlt
      have hbs := @badI_step s j hlt
      have hr1 : (decR s j).1 ≤ 2200000 := by
        unfold decR; split
        · simp
        · exact Nat.le_trans (runeR_lt s j) (by omega)
      have hd2 : sizeR s j ≠ 0 → (decR s j).2 = sizeR s j := fun h => by simp [decR, h]
      have hslice : sliceSV (.str s) (some (vI j)) none = some (.str (s.drop j)) := by
        simp only [sliceSV, boundV]
        rw [if_pos (by omega)]
        rw [show ((s.length : Int)).toNat - ((j : Int)).toNat = s.length - j by omega, Int.toNat_natCast, List.take_of_length_le (by simp)]
      generalize decR s j = d at *
      obtain ⟨c, sz⟩ := d
      simp only at hle hpos hli hr1 hd2
      by_cases hc : c = 65533
      · have hc' : ((c : Int) = 65533) = True := by simp [hc]
        (refine Runs.of_step Orc.nothing 300 ?_; simp -implicitDefEqProofs only [BB, effR_some, effD_some, Int.reduceEq, Int.reduceNe, Int.reduceLT, Int.reduceLE, Int.reduceGT, Int.reduceGE, Nat.reduceEqDiff, Nat.reduceAdd, Nat.reduceMul, Nat.reduceLeDiff, Nat.reduceSub, Nat.reduceLT, Nat.reduceBEq, ↓reduceIte, reduceCtorEq, ← decide_not, okind, vpre, vpure, intBin, intPre, strBin, strPre, popTo, argSlots, fldV, fldAV, subCells, idxVV, idxAAV, idxSV, sliceV, boundV, szIs, storeOp, storeS, setRowV, eff, extV, buildV, splice, eqSV, fitsL, eqCells, eqCell, minmaxV, capV, binBV, nilCheckV, bytesV, V.cells, V.stays, Orc.nothing, h0, h7, hc', hslice])
        refine Runs.pcall rfl rfl rfl (prefix_c _ _ _) ?_
        cases hpre : isPre (s.drop j) [239, 191, 189]
        · (refine Runs.of_step Orc.nothing 300 ?_; simp -implicitDefEqProofs only [BB, effR_some, effD_some, Int.reduceEq, Int.reduceNe, Int.reduceLT, Int.reduceLE, Int.reduceGT, Int.reduceGE, Nat.reduceEqDiff, Nat.reduceAdd, Nat.reduceMul, Nat.reduceLeDiff, Nat.reduceSub, Nat.reduceLT, Nat.reduceBEq, ↓reduceIte, reduceCtorEq, ← decide_not, okind, vpre, vpure, intBin, intPre, strBin, strPre, popTo, argSlots, fldV, fldAV, subCells, idxVV, idxAAV, idxSV, sliceV, sliceSV, boundV, szIs, storeOp, storeS, setRowV, eff, extV, buildV, splice, eqSV, fitsL, eqCells, eqCell, minmaxV, capV, binBV, nilCheckV, bytesV, V.cells, V.stays, Orc.nothing, h0])
          refine RetV.pure ?_ ?_
          · exact hsub.updK hid
          · rw [hp, hbd (hli.1 ⟨hc, hpre⟩)]; rfl
        · (refine Runs.of_step Orc.nothing 300 ?_; simp -implicitDefEqProofs only [BB, effR_some, effD_some, Int.reduceEq, Int.reduceNe, Int.reduceLT, Int.reduceLE, Int.reduceGT, Int.reduceGE, Nat.reduceEqDiff, Nat.reduceAdd, Nat.reduceMul, Nat.reduceLeDiff, Nat.reduceSub, Nat.reduceLT, Nat.reduceBEq, ↓reduceIte, reduceCtorEq, ← decide_not, okind, vpre, vpure, intBin, intPre, strBin, strPre, popTo, argSlots, fldV, fldAV, subCells, idxVV, idxAAV, idxSV, sliceV, sliceSV, boundV, szIs, storeOp, storeS, setRowV, eff, extV, buildV, splice, eqSV, fitsL, eqCells, eqCell, minmaxV, capV, binBV, nilCheckV, bytesV, V.cells, V.stays, Orc.nothing, h0])
          have hz : sizeR s j ≠ 0 := fun h => by have := (hli.2 h).2; rw [hpre] at this; cases this
          refine ⟨_, ?_, j + sz, by omega, rfl, ?_, hsub.updK hid, by simp [h0, h7]⟩
          · omega
          · rw [hp, hbs hz, hd2 hz]
      · have hc' : ((c : Int) = 65533) = False := by simp; omega
        have hz : sizeR s j ≠ 0 := fun h => hc (hli.2 h).1
        (refine Runs.of_step Orc.nothing 300 ?_; simp -implicitDefEqProofs only [BB, effR_some, effD_some, Int.reduceEq, Int.reduceNe, Int.reduceLT, Int.reduceLE, Int.reduceGT, Int.reduceGE, Nat.reduceEqDiff, Nat.reduceAdd, Nat.reduceMul, Nat.reduceLeDiff, Nat.reduceSub, Nat.reduceLT, Nat.reduceBEq, ↓reduceIte, reduceCtorEq, ← decide_not, okind, vpre, vpure, intBin, intPre, strBin, strPre, popTo, argSlots, fldV, fldAV, subCells, idxVV, idxAAV, idxSV, sliceV, sliceSV, boundV, szIs, storeOp, storeS, setRowV, eff, extV, buildV, splice, eqSV, fitsL, eqCells, eqCell, minmaxV, capV, binBV, nilCheckV, bytesV, V.cells, V.stays, Orc.nothing, h0, h7, hc'])
        refine ⟨_, ?_, j + sz, by omega, rfl, ?_, hsub.updK hid, by simp [h0, h7]⟩
        · omega
        · rw [hp, hbs hz, hd2 hz]
    · (refine Runs.of_step Orc.nothing 300 ?_; simp -implicitDefEqProofs only [BB, effR_some, effD_some, Int.reduceEq, Int.reduceNe, Int.reduceLT, Int.reduceLE, Int.reduceGT, Int.reduceGE, Nat.reduceEqDiff, Nat.reduceAdd, Nat.reduceMul, Nat.reduceLeDiff, Nat.reduceSub, Nat.reduceLT, Nat.reduceBEq, ↓reduceIte, reduceCtorEq, ← decide_not, okind, vpre, vpure, intBin, intPre, strBin, strPre, popTo, argSlots, fldV, fldAV, subCells, idxVV, idxAAV, idxSV, sliceV, sliceSV, boundV, szIs, storeOp, storeS, setRowV, eff, extV, buildV, splice, eqSV, fitsL, eqCells, eqCell, minmaxV, capV, binBV, nilCheckV, bytesV, V.cells, V.stays, Orc.nothing, h0, h7])
      refine RetV.pure hsub ?_
      rw [hp, badI_end hlt]; rfl
end Go.Vc
namespace Go.Vc
open Go.Proofs
def encT (t : Tk) : V := .agg [vI t.kind, .int .i32 t.sign, vI t.n, vI t.at']
def resT : Res → V
  | .ok l => .tup [.sl 4 (l.map encT), vI 0, vI 0]
  | .bad p => .tup [.sl 4 [], vI p, vI 1]
theorem digLen_lt : ∀ {l : List UInt8} {d : Nat}, d ≤ digLen l → (d < digLen l ↔ ∃ b, l[d]? = some b ∧ 48 ≤ b.toNat ∧ b.toNat ≤ 57)
  | [], d, h => by simp [digLen] at h ⊢
  | b :: l, d, h => by
    simp only [digLen] at h ⊢
    split at h
    · rename_i hb
      rw [if_pos hb]
      cases d with
      | zero => simp; exact hb
      | succ d =>
        have := digLen_lt (l := l) (d := d) (by omega)
        simp only [List.getElem?_cons_succ]
        rw [← this]
        omega
    · rename_i hb
      rw [if_neg hb]
      obtain rfl : d = 0 := by omega
      simp only [Nat.lt_irrefl, List.getElem?_cons_zero, false_iff]
      rintro ⟨b', h1, h2⟩
      simp only [Option.some.injEq] at h1
      subst h1
      exact hb h2
theorem dig_in {s : List UInt8} {j d : Nat} (h : d ≤ digLen (s.drop j)) : inB s (j + d) 48 57 = decide (d < digLen (s.drop j)) := by
  rw [Bool.eq_iff_iff, decide_eq_true_eq, digLen_lt h]
  simp only [inB, Bool.and_eq_true, decide_eq_true_eq, List.getElem?_drop]
  unfold byt
  cases hq : s[j + d]? with
  | none => simp
  | some b => have := b.toNat_lt; simp; omega
theorem numR_snoc (l : List UInt8) (b : UInt8) : numR (l ++ [b]) = 10 * numR l + (b.toNat - 48) := by simp [numR, List.foldl_append]
theorem len_digs {s : List UInt8} {j : Nat} : (digsAt s j).length = digLen (s.drop j) := by
  unfold digsAt
  have := digLen_le (s.drop j)
  simp at this ⊢; omega
theorem take_digs {s : List UInt8} {j : Nat} : (s.drop j).take (digLen (s.drop j)) = digsAt s j := rfl
theorem dig_get {s : List UInt8} {j : Nat} (d : Nat) (h : d < digLen (s.drop j)) : ∃ b : UInt8, (s.drop j).take (d + 1) = (s.drop j).take d ++ [b] ∧ byt s (j + d) = b.toNat ∧ 48 ≤ b.toNat ∧ b.toNat ≤ 57 := by
  obtain ⟨b, h1, h2, h3⟩ := (digLen_lt (Nat.le_of_lt h)).1 h
  refine ⟨b, ?_, ?_, h2, h3⟩
  · rw [List.take_add_one, h1]; rfl
  · rw [List.getElem?_drop] at h1
    simp [byt, h1]
theorem ofI_end {s : List UInt8} {c : Bool} {i : Nat} (h : ¬ i < s.length) : ofI s c i = .ok [] := by rw [ofI, dif_neg h]
theorem ofI_bad {s : List UInt8} {c : Bool} {i : Nat} (h : i < s.length) (hz : sizeR s i = 0) : ofI s c i = .bad i := by rw [ofI, dif_pos h, dif_pos hz]
theorem ofI_com {s : List UInt8} {i : Nat} (h : i < s.length) (hz : sizeR s i ≠ 0) : ofI s true i = ofI s (decide (byt s i ≠ 10)) (i + sizeR s i) := by
  rw [ofI.eq_def s true i, dif_pos h, dif_neg hz, if_pos rfl]
theorem ofI_hash {s : List UInt8} {i : Nat} (h : i < s.length) (hz : sizeR s i ≠ 0) (hb : byt s i = 35) : ofI s false i = ofI s true (i + 1) := by
  rw [ofI.eq_def s false i, dif_pos h, dif_neg hz, if_neg (by simp), if_pos hb]
theorem ofI_white {s : List UInt8} {i : Nat} (h : i < s.length) (hz : sizeR s i ≠ 0) (hb : byt s i = 32 ∨ byt s i = 9 ∨ byt s i = 10) : ofI s false i = ofI s false (i + 1) := by
  rw [ofI.eq_def s false i, dif_pos h, dif_neg hz, if_neg (by simp), if_neg (by omega), if_pos hb]
theorem ofI_num {s : List UInt8} {i : Nat} (h : i < s.length) (hz : sizeR s i ≠ 0) (hb : 48 ≤ byt s i ∧ byt s i ≤ 57) : ofI s false i = if numBad (digsAt s i) then .bad i
    else (ofI s false (i + digLen (s.drop i))).cons ⟨2, 0, numR (digsAt s i), i⟩ := by
  rw [ofI.eq_def s false i, dif_pos h, dif_neg hz, if_neg (by simp), if_neg (by omega), if_neg (by omega), dif_pos hb]
theorem ofI_sign {s : List UInt8} {i : Nat} (h : i < s.length) (hz : sizeR s i ≠ 0) (hb : ¬ (byt s i = 35 ∨ byt s i = 32 ∨ byt s i = 9 ∨ byt s i = 10 ∨ (48 ≤ byt s i ∧ byt s i ≤ 57))) :
    ofI s false i = (ofI s false (i + sizeR s i)).cons ⟨1, runeR s i (sizeR s i), 0, i⟩ := by
  rw [ofI.eq_def s false i, dif_pos h, dif_neg hz, if_neg (by simp), if_neg (by omega), if_neg (by omega), dif_neg (by omega)]
end Go.Vc
