/- Part 3 of the library of this proof. -/
import Derived.Test.YtpinmkaeafpfdaaDoorW2
import Derived.WalkKit
import Derived.ProofKit
import Derived.Deep.Slices
import Derived.ChangeArms
import Derived.WideKeyArgs
import Derived.Carry
import Derived.SizedLaws
import Derived.Laws.RangeString
import Derived.Laws.Runes
import Derived.Shelf.Strings.Builder1
import Derived.Laws.Tables
import Derived.Test.YtpinmkaeafpfdaaDoorProg
import Derived.KernelRfl
set_option linter.all false
namespace Go.Vc
open Go.ChangeShapes Go.WideShapes Go.RowKit Go.Deep
def contig (P : Program) (total : Nat) : Nat → List Field → Bool
  | off, [] => off == total
  | off, f :: fs => f.offset == off && contig P total (off + P.cellsOf f.type) fs
/-- a type that is read here: numbers, bools, strings, slices and structs of these -/
def okTy (P : Program) : Nat → TypeId → Bool
  | 0, _ => false
  | n + 1, t => match P.underlying t with
    | some .bool | some (.int _) | some .string => true
    | some (.slice e) => okTy P n e && P.cellsOf e != 0
    | some (.struct fs) => contig P (P.cellsOf t) 0 fs.toList && fs.toList.all fun f => okTy P n f.type
    | _ => false
def rowOf (agg : Bool) (cs : List V) : V := if agg then .agg cs else cs.getD 0 .undef
def ShpFs (S : TypeId → List V → Prop) : List Field → List V → Prop
  | [], vs => vs = []
  | f :: fs, vs => ∃ a b, vs = a ++ b ∧ S f.type a ∧ ShpFs S fs b
/-- cells of a type -/
def ShpC (P : Program) : Nat → TypeId → List V → Prop
  | 0, _, _ => False
  | n + 1, t, vs => match P.underlying t with
    | some .bool => ∃ b, vs = [.bool b]
    | some (.int k) => ∃ m, vs = [.int k m] ∧ (Lit.int k m).wf = true
    | some .string => ∃ s : List UInt8, vs = [.str s] ∧ s.length ≤ reachBytes
    | some (.slice e) => ∃ rows, vs = [.sl (P.cellsOf e) rows] ∧ rows.length * P.bytesOf e ≤ reachBytes ∧ ∀ r ∈ rows, ∃ cs, ShpC P n e cs ∧ r = rowOf (aggT P e) cs
    | some (.struct fs) => ShpFs (ShpC P n) fs.toList vs
    | _ => False
theorem list_of {α : Type} {Pr : Nat → α → Prop} : ∀ n, (∀ i, i < n → ∃ r, Pr i r) → ∃ rows : List α, rows.length = n ∧ ∀ i r, rows[i]? = some r → Pr i r
  | 0, _ => ⟨[], rfl, fun i r h => by simp at h⟩
  | n + 1, h => by
    obtain ⟨rows, h1, h2⟩ := list_of n fun i hi => h i (by omega)
    obtain ⟨r, hr⟩ := h n (by omega)
    refine ⟨rows ++ [r], by simp [h1], fun i x hx => ?_⟩
    rw [List.getElem?_append] at hx
    split at hx
    · exact h2 i x hx
    · rename_i hi
      have : i - rows.length = 0 := by
        rcases Nat.eq_zero_or_pos (i - rows.length) with h0 | h0
        · exact h0
        · rw [List.getElem?_eq_none (by simp; omega)] at hx; cases hx
      rw [this] at hx
      simp at hx
      subst hx
      have : i = n := by omega
      subst this
      exact hr
theorem repRows_of {μ : Mu} {ow : Nat → Prop} {w : World} {b off sz : Nat} : ∀ (rows : List V) (k : Nat), (∀ i r, rows[i]? = some r → r.cells.length = sz ∧ RepCells μ ow w r.cells b (off + (k + i) * sz)) → RepRows μ ow w rows b (off + k * sz) sz
  | [], _, _ => by simp [RepRows]
  | r :: rs, k, h => by
    have h0 := h 0 r rfl
    simp only [RepRows]
    refine ⟨h0.1, by rw [RepRow_eq]; simpa using h0.2, ?_⟩
    have e : off + k * sz + sz = off + (k + 1) * sz := by rw [Nat.add_mul]; omega
    rw [e]
    refine repRows_of rs (k + 1) fun i x hx => ?_
    have := h (i + 1) x (by simpa using hx)
    rw [show k + 1 + i = k + (i + 1) by omega]
    exact this
section
variable {H : Type} {enc : TypeId × Value → H} {P : Program} {w : World} {base : Nat} {spare : Nat → Bool} {held : Bool} {μ : Mu} {ow : Nat → Prop}
def RepShp (P : Program) (μ : Mu) (ow : Nat → Prop) (w : World) (N : Nat) (t : TypeId) (cs : List Value) : Prop :=
  ∃ vs, ShpC P N t vs ∧ RepAll μ ow w vs cs ∧ ∀ u ∈ cs, u.oneCell' = true
theorem struct_rep {S : TypeId → List V → Prop} {cs : List Value} : ∀ (fs : List Field) (off : Nat), contig P cs.length off fs = true →
    (∀ f ∈ fs, ∃ vs, S f.type vs ∧ RepAll μ ow w vs ((cs.drop f.offset).take (P.cellsOf f.type)) ∧ ∀ u ∈ (cs.drop f.offset).take (P.cellsOf f.type), u.oneCell' = true) →
    ∃ vs, ShpFs S fs vs ∧ RepAll μ ow w vs (cs.drop off) ∧ ∀ u ∈ cs.drop off, u.oneCell' = true
  | [], off, hc, _ => by
    simp only [contig, beq_iff_eq] at hc
    refine ⟨[], rfl, ?_, ?_⟩
    · rw [List.drop_eq_nil_of_le (by omega)]; simp [RepAll]
    · rw [List.drop_eq_nil_of_le (by omega)]; simp
  | f :: fs, off, hc, h => by
    simp only [contig, Bool.and_eq_true, beq_iff_eq] at hc
    obtain ⟨a, h1, h2, h3⟩ := h f (by simp)
    obtain ⟨b, h4, h5, h6⟩ := struct_rep fs (off + P.cellsOf f.type) hc.2 fun g hg => h g (by simp [hg])
    rw [hc.1] at h2 h3
    have e : cs.drop off = (cs.drop off).take (P.cellsOf f.type) ++ cs.drop (off + P.cellsOf f.type) := by
      rw [← List.drop_drop, List.take_append_drop]
    refine ⟨a ++ b, ⟨a, b, rfl, h1, h4⟩, ?_, ?_⟩
    · rw [e]; exact h2.append h5
    · rw [e]; intro u hu
      rcases List.mem_append.1 hu with hu | hu
      · exact h3 u hu
      · exact h6 u hu
theorem one_rep {v : V} {x : Value} (h : Rep μ ow w v x) : RepAll μ ow w [v] [x] := by simp only [RepAll]; exact ⟨x, [], rfl, h, rfl⟩
theorem aggT_struct {t : TypeId} {fs : Array Field} (h : P.underlying t = some (.struct fs)) : aggT P t = true := by simp [aggT, h]
theorem weightsAll_mem {e : TypeId} {d : DataW H} : ∀ {l : List (DataW H)}, d ∈ l → ∀ n ∈ d.weights P e, n ∈ DataW.weightsAll P e l
  | [], h, _, _ => by simp at h
  | x :: l, h, n, hn => by
    simp only [DataW.weightsAll, List.mem_append]
    rcases List.mem_cons.1 h with rfl | h
    · exact .inl hn
    · exact .inr (weightsAll_mem h n hn)
/-- What reads as data is held. -/
theorem rep_of_trod (hno : ∀ b, ¬ ow b) : ∀ (N : Nat) (fuel : Nat) (t : TypeId) (cs : List Value) (x : DataW H × List MemPlace), okTy P N t = true → (∀ n ∈ x.1.weights P t, n ≤ reachBytes) → DataW.trod enc P w base spare held fuel t cs = some x →
    RepShp P μ ow w N t cs
  | 0, _, _, _, _, h, _, _ => by simp [okTy] at h
  | N + 1, fuel, t, cs, x, hok, hwt, hx => by
    have hok' := hok
    unfold okTy at hok
    unfold RepShp
    simp only [ShpC]
    split at hok
    · rename_i ht
      obtain ⟨b, rfl, _⟩ := DataW.trod_bool ht hx
      exact ⟨[.bool b], ⟨b, rfl⟩, one_rep (by simp [Rep]), by simp [Value.oneCell']⟩
    · rename_i k ht
      obtain ⟨m, rfl, _, hw⟩ := DataW.trod_int ht hx
      exact ⟨[.int k m], ⟨m, rfl, hw⟩, one_rep (by simp [Rep]), by simp [Value.oneCell']⟩
    · rename_i ht
      obtain ⟨s, rfl, rfl, hw⟩ := DataW.trod_string ht hx
      exact ⟨[.str s.data.toList], ⟨_, rfl, hwt _ (by simp [DataW.weights])⟩, one_rep (by simp [Rep]), by simp [Value.oneCell']⟩
    · rename_i e ht
      simp only [Bool.and_eq_true, bne_iff_ne, ne_eq] at hok
      rcases open_slice ht hx with ⟨rfl, _⟩ | ⟨a, len, cap, m, n, D, Pl, rfl, hb, hl, hm, hmm, rfl, hi⟩
      · exact ⟨[.sl (P.cellsOf e) []], ⟨[], rfl, by simp, by simp⟩, one_rep (by simp only [Rep]; exact ⟨none, 0, rfl, by simp, .inl trivial⟩), by simp [Value.oneCell']⟩
      · have hlm : len ≤ m := by rw [hmm]; split <;> omega
        simp only [DataW.weights, ht] at hwt
        have hlen : len * P.bytesOf e ≤ reachBytes := by
          have := hwt _ (List.mem_cons_self ..)
          simp only [List.length_map, List.length_range] at this
          exact Nat.le_trans (Nat.mul_le_mul_right _ (by omega)) this
        have hel : ∀ i, i < len → ∃ r : V, (∃ cs, ShpC P N e cs ∧ r = rowOf (aggT P e) cs) ∧ r.cells.length = P.cellsOf e ∧ ∃ cs', RepAll μ ow w r.cells cs' ∧ (∀ u ∈ cs', u.oneCell' = true) ∧ cs'.length = P.cellsOf e ∧
            ∀ j, j < P.cellsOf e → w.cell? ((a.add (i * P.cellsOf e)).add j) = cs'[j]? := by
          intro i hi'
          obtain ⟨cs', h1, h2⟩ := hi i (by omega)
          obtain ⟨_, hcl, hat⟩ := World.cells?_some h1
          obtain ⟨vs, h3, h4, h5⟩ := rep_of_trod hno N n e cs' _ hok.1 (fun q hq => hwt q (List.mem_cons_of_mem _ (List.mem_append_left _ (weightsAll_mem (List.mem_map.2 ⟨i, by simpa using hi', rfl⟩) q hq)))) h2
          have hvl : vs.length = P.cellsOf e := by rw [← hcl, h4.length]
          have hcells : (rowOf (aggT P e) vs).cells = vs := by
            unfold rowOf
            split
            · rfl
            · rename_i hna
              cases N with
              | zero => simp [ShpC] at h3
              | succ N' =>
                unfold ShpC at h3
                split at h3
                · obtain ⟨b, rfl⟩ := h3; rfl
                · obtain ⟨b, rfl, _⟩ := h3; rfl
                · obtain ⟨b, rfl, _⟩ := h3; rfl
                · obtain ⟨b, rfl, _⟩ := h3; rfl
                · rename_i hs; exact absurd (aggT_struct hs) hna
                · exact h3.elim
          exact ⟨rowOf (aggT P e) vs, ⟨vs, h3, rfl⟩, by rw [hcells, hvl], cs', by rw [hcells]; exact h4, h5, hcl, hat⟩
        obtain ⟨rows, hr1, hr2⟩ := list_of len hel
        refine ⟨[.sl (P.cellsOf e) rows], ⟨rows, rfl, by rw [hr1]; exact hlen, fun r hr => ?_⟩, one_rep ?_, by simp [Value.oneCell']⟩
        · obtain ⟨i, hi'⟩ := List.getElem?_of_mem hr
          exact (hr2 i r hi').1
        · simp only [Rep]
          refine ⟨some a, cap, by rw [hr1], by omega, ?_⟩
          by_cases h0 : len = 0
          · left; exact List.eq_nil_of_length_eq_zero (by omega)
          · right
            have hfirst : ∃ r, rows[0]? = some r := ⟨rows[0]'(by omega), by simp⟩
            obtain ⟨r0, hr0⟩ := hfirst
            obtain ⟨_, _, cs0, _, _, hcl0, hat0⟩ := hr2 0 r0 hr0
            have hc0 := hat0 0 (by omega)
            rw [List.getElem?_eq_getElem (by omega)] at hc0
            have hspot : a.spot = none := by
              have := World.cell?_spot hc0
              simpa [Addr.add] using this
            obtain ⟨b, off, spot⟩ := a
            subst hspot
            refine ⟨b, off, rfl, hno b, by omega, ?_⟩
            have := repRows_of (μ := μ) (ow := ow) (w := w) (b := b) (off := off) (sz := P.cellsOf e) rows 0 fun i r hri => ?_
            · simpa using this
            · obtain ⟨_, h1, cs', h2, h3, h4, h5⟩ := hr2 i r hri
              refine ⟨h1, RepCells_of h2 h3 fun j u hu => ?_⟩
              have hj : j < P.cellsOf e := by rw [← h4]; exact (List.getElem?_eq_some_iff.1 hu).1
              have := h5 j hj
              rw [hu, add_plain, add_plain] at this
              rw [Nat.zero_add]
              exact this
    · rename_i fs ht
      simp only [Bool.and_eq_true] at hok
      obtain ⟨xs, n, _, rfl, hl, hxl, hf⟩ := DataW.trod_struct ht hx
      simp only [DataW.weights, ht] at hwt
      obtain ⟨vs, h1, h2, h3⟩ := struct_rep (μ := μ) (ow := ow) (w := w) (P := P) (S := ShpC P N) (cs := cs) fs.toList 0 (by rw [hl]; exact hok.1) fun f hfm => by
        obtain ⟨i, hi⟩ := List.getElem?_of_mem hfm
        have hi' : fs[i]? = some f := by simpa using hi
        have hlt : i < xs.length := by rw [hxl]; exact (Array.getElem?_eq_some_iff.1 hi').1
        have h1 := hf i f hi'
        rw [List.getElem?_eq_getElem hlt] at h1
        exact rep_of_trod hno N n f.type _ _ (List.all_eq_true.1 hok.2 f hfm) (fun q hq => hwt q (DataW.weights_mem_each (j := i) (t := f.type) (d := (xs[i]'hlt).1) (by simp [hi]) (by simp [hlt]) q hq)) h1
      exact ⟨vs, h1, by simpa using h2, by simpa using h3⟩
    · cases hok
/-- an argument -/
def argOf (P : Program) (t : TypeId) (vs : List V) : V := if aggT P t then .agg vs else vs.getD 0 .undef
theorem arg_rep (hno : ∀ b, ¬ ow b) {N : Nat} {t : TypeId} {v : Value} {d : DataW H} {p : List MemPlace} {r : Reach} {b0 : Nat} (hok : okTy P N t = true) (hwt : ∀ n ∈ d.weights P t, n ≤ reachBytes) (hval : Value.okWide P w r b0 t v) (h : DataW.Trod enc P w base spare held t v d p) :
    ∃ vs, ShpC P N t vs ∧ Rep μ ow w (argOf P t vs) v := by
  obtain ⟨fuel, hf⟩ := h
  obtain ⟨vs, h1, h2, h3⟩ := rep_of_trod (μ := μ) hno N fuel t _ _ hok hwt hf
  refine ⟨vs, h1, ?_⟩
  cases N with
  | zero => simp [ShpC] at h1
  | succ N' =>
    unfold ShpC at h1
    have hone : ∀ u : V, vs = [u] → v.cells = #[v] → aggT P t = false → Rep μ ow w (argOf P t vs) v := by
      rintro u rfl hc ha
      rw [hc] at h2
      simp only [RepAll] at h2
      obtain ⟨x, xs, h4, h5, h6⟩ := h2
      simp only [List.cons.injEq] at h4
      simp only [argOf, ha, Bool.false_eq_true, if_false]
      rw [h4.1]; exact h5
    split at h1
    · rename_i ht
      obtain ⟨b, rfl⟩ := h1
      obtain ⟨x, rfl⟩ := okWide_bool ht hval
      exact hone _ rfl rfl (by simp [aggT, ht])
    · rename_i ht
      obtain ⟨b, rfl, _⟩ := h1
      obtain ⟨x, rfl⟩ := okWide_int ht hval
      exact hone _ rfl rfl (by simp [aggT, ht])
    · rename_i ht
      obtain ⟨b, rfl, _⟩ := h1
      obtain ⟨x, rfl⟩ := okWide_string ht hval
      exact hone _ rfl rfl (by simp [aggT, ht])
    · rename_i ht
      obtain ⟨b, rfl, _⟩ := h1
      obtain ⟨x, y, z, rfl⟩ := okWide_slice ht hval
      exact hone _ rfl rfl (by simp [aggT, ht])
    · rename_i ht
      obtain ⟨cs, rfl, _⟩ := okWide_struct ht hval
      simp only [argOf, aggT_struct ht, if_true, Rep]
      exact ⟨cs.toList, by simp, by simpa [Value.cells] using h2, by simpa [Value.cells] using h3⟩
    · exact h1.elim
def ShpArgs (P : Program) (N : Nat) : List TypeId → List V → Prop
  | [], us => us = []
  | t :: ts, us => ∃ vs us', us = argOf P t vs :: us' ∧ ShpC P N t vs ∧ ShpArgs P N ts us'
theorem args_rep (hno : ∀ b, ¬ ow b) {N : Nat} {r : Reach} {b0 : Nat} : ∀ {ts : List TypeId} {vs : List Value} {ds : List (DataW H)} {p : List MemPlace}, (∀ t ∈ ts, okTy P N t = true) → (∀ n ∈ DataW.weightsEach P ts ds, n ≤ reachBytes) →
    (∀ (j : Nat) t v, ts[j]? = some t → vs[j]? = some v → Value.okWide P w r b0 t v) → DataW.TrodAll enc P w base spare held ts vs ds p → ∃ us, ShpArgs P N ts us ∧ RepAll μ ow w us vs
  | [], vs, ds, p, _, _, _, h => by
    cases vs <;> cases ds <;> simp [DataW.TrodAll] at h
    exact ⟨[], rfl, by simp [RepAll]⟩
  | t :: ts, vs, ds, p, hok, hwt, hval, h => by
    obtain ⟨v, vs', d, ds', p', q, rfl, rfl, rfl, h1, h2⟩ := trodAll_cons h
    simp only [DataW.weightsEach, List.mem_append] at hwt
    obtain ⟨cs, g1, g2⟩ := arg_rep (μ := μ) (b0 := b0) hno (hok t (by simp)) (fun q hq => hwt q (.inl hq)) (hval 0 t v rfl rfl) h1
    obtain ⟨us, g3, g4⟩ := args_rep (b0 := b0) hno (fun u hu => hok u (by simp [hu])) (fun q hq => hwt q (.inr hq)) (fun j u x hj hx => hval (j + 1) u x (by simpa using hj) (by simpa using hx)) h2
    exact ⟨_ :: us, ⟨cs, us, rfl, g1, g3⟩, by simp only [RepAll]; exact ⟨v, vs', rfl, g2, g4⟩⟩
theorem trodAll_stays (hl : laidOutB P = true) : ∀ {ts : List TypeId} {vs : List Value} {ds : List (DataW H)} {p : List MemPlace} {W W' : World} {sp : Nat → Bool}, (∀ t ∈ ts, P.readableRec t = true ∧ t < P.types.size) →
    DataW.TrodAll enc P W 0 (fun _ => true) true ts vs ds p → Below W.heap.size W W' → (∀ x ∈ p, x.block < W.heap.size) → (∀ x ∈ p, sp x.block = true) → DataW.TrodAll enc P W' 0 sp true ts vs ds p
  | [], vs, ds, p, W, W', sp, _, h, _, _, _ => by
    cases vs <;> cases ds <;> simp [DataW.TrodAll] at h ⊢
    exact h
  | t :: ts, vs, ds, p, W, W', sp, ht, h, hb, hlt, hsp => by
    obtain ⟨v, vs', d, ds', p', q, rfl, rfl, rfl, h1, h2⟩ := trodAll_cons h
    refine ⟨p', q, WideElems.Trod_stays hl (ht t (by simp)).1 (ht t (by simp)).2 h1 (fun x hx => hb.same (hlt x (by simp [hx]))) (fun x hx => hsp x (by simp [hx])), ?_, rfl⟩
    exact trodAll_stays hl (fun u hu => ht u (by simp [hu])) h2 hb (fun x hx => hlt x (by simp [hx])) (fun x hx => hsp x (by simp [hx]))
end
/-- The row's last step where the call froze something new. -/
theorem post_of_below {H : Type} {enc : TypeId × Value → H} {P : Program} {f : Func} {s : ChangeSpec} {apart fresh handsOn again : Bool} {W W' : World} {args : Array Value} {v : Value} {ds gs : List (DataW H)} {before pa pv : List MemPlace}
    (hW : DataW.Whole enc P f.params.toList s.vars apart W args.toList ds gs before)
    (hres : ∀ (b : Nat) (sp : Nat → Bool) (hd : Bool), DataW.TrodAll enc P W' b sp hd f.resultTypes.toList (v.resultList f.resultTypes.size) (s.fn H (ds ++ gs)).results [])
    (hargs : ∀ sp : Nat → Bool, (∀ p ∈ before, sp p.block = true) → DataW.TrodAll enc P W' 0 sp true f.params.toList args.toList (s.fn H (ds ++ gs)).args pa)
    (hvars : ∀ sp : Nat → Bool, (∀ p ∈ before, sp p.block = true) → DataW.TrodVars enc P W' sp s.vars (s.fn H (ds ++ gs)).vars pv)
    (hps : before = pa ++ pv) (hb : Below W.heap.size W W')
    (hok : ∀ (j : Nat) (t : TypeId) (r : Value), f.resultTypes[j]? = some t → (v.resultList f.resultTypes.size)[j]? = some r → Value.okWide P W' .any 0 t r) :
    s.post enc P f apart fresh handsOn again W args v W' := by
  have hlt : ∀ p ∈ before, p.block < W.heap.size := fun p hp => hW.lt p hp
  have hold : ∀ p ∈ before, (fun b => decide (b < W.heap.size)) p.block = true := fun p hp => by simpa using hlt p hp
  refine ⟨ds, gs, before, [], pa, pv, hW, hres _ _ _, hargs _ hold, hvars _ hold, World.keptBut_mono (fun p hp => ⟨hp, ?_⟩) (hb.frame (· ∈ before)), fun _ => ?_⟩
  · rw [hps, List.mem_append] at hp
    exact Or.inr hp
  · obtain ⟨_, _, _, _, _, hz, hn⟩ := hW
    refine ⟨hok, _, _, ([] ++ pa) ++ pv, ⟨[] ++ pa, pv, trodAll_append (hargs _ (fun _ _ => rfl)) (hres _ _ _), hvars _ (fun _ _ => rfl), rfl, ?_, ?_⟩, ?_⟩
    · intro b off hp
      have hin : MemPlace.cell b off ∈ before := by rw [hps]; simpa using hp
      rw [hb.frozen (hlt _ hin)]
      exact hz b off hin
    · intro ha
      have := hn ha
      rw [hps] at this
      simpa using this
    · intro p hp _
      rw [hps]
      simpa using hp
/-- A law's contract is enough: it answers true, whatever its arguments are. -/
theorem law_post {H : Type} {enc : TypeId × Value → H} {P : Program} {f : Func} {i : FuncId} {s : ChangeSpec} {N : Nat} (hfs : P.funcs[i]? = some f) (hl : laidOutB P = true)
    (hts : f.params.toList.all (fun t => okTy P N t && (P.readableRec t && decide (t < P.types.size))) = true) (hvars : s.vars = []) {tb : TypeId} (hres : f.resultTypes = #[tb]) (htb : P.underlying tb = some .bool)
    (hfn : ∀ ds, ds.length = f.params.size → s.fn H ds = ⟨[.lit (.bool true)], ds, []⟩)
    (hlaw : ∀ us, ShpArgs P N f.params.toList us → PFun P i us (.bool true))
    {apart fresh handsOn again : Bool} {W : World} {base : Nat} {args : Array Value} {ds gs : List (DataW H)} {before : List MemPlace}
    (hval : ∀ (j : Nat) t v, f.params[j]? = some t → args[j]? = some v → Value.okWide P W .any base t v)
    (hW : DataW.Whole enc P f.params.toList s.vars apart W args.toList ds gs before) (hvt : s.plain.varTypes P = [])
    (hsz : (DataW.weightsEach P (f.params.toList ++ s.plain.varTypes P) (ds ++ gs)).all (· ≤ reachBytes) = true) (hO : Orig W) :
    Calls P i args W fun e W' => ∃ v, e = .returned v ∧ s.post enc P f apart fresh handsOn again W args v W' := by
  have hW' := hW
  obtain ⟨p, q, hA, hV, rfl, hfz, hnd⟩ := hW
  have hts' := List.all_eq_true.1 hts
  simp only [Bool.and_eq_true, decide_eq_true_eq] at hts'
  rw [hvars] at hV
  have hnoV : gs = [] ∧ q = [] := by
    cases gs with
    | nil => exact ⟨rfl, by simpa [DataW.TrodVars] using hV⟩
    | cons g gs => simp [DataW.TrodVars] at hV
  obtain ⟨rfl, rfl⟩ := hnoV
  have hno : ∀ b, ¬ Owned (fun _ => Pl.unborn) nost b := fun b ⟨_, _, _, _, h, _⟩ => by simp [nost] at h
  obtain ⟨us, hsh, hrep⟩ := args_rep (μ := fun _ => Pl.unborn) (ow := Owned (fun _ => Pl.unborn) nost) (b0 := base) (r := .any) hno (fun t ht => (hts' t ht).1)
    (by rw [hvt, List.append_nil, List.append_nil] at hsz; intro n hn; simpa using List.all_eq_true.1 hsz n hn) (fun j t v hj hv => hval j t v (by simpa using hj) (by simpa using hv)) hA
  have hsat : Sat W (Owned (fun _ => Pl.unborn) nost) (fun _ => Pl.unborn) nost W :=
    ⟨Nat.le_refl _, rfl, rfl, rfl, fun _ _ _ => rfl, ⟨0, fun _ _ => rfl⟩, fun _ _ _ _ _ _ _ _ _ h => by simp [nost] at h, fun _ _ h => by simp [nost] at h, fun b hb => (hno b hb).elim, ⟨W, hO, Nat.le_refl _, fun i _ => ⟨hno i, rfl⟩⟩⟩
  have hcall := (hlaw us hsh nost).2 (fun _ => Pl.unborn) W args.toList hsat hrep
  rw [Array.toArray_toList] at hcall
  refine hcall.mono ?_
  rintro e W' ⟨r, σ', μ', val, rfl, ⟨rfl, rfl⟩, _, hs', hr⟩
  simp only [Rep] at hr
  subst hr
  have hbel : Below W.heap.size W W' := ⟨hs'.os, hs'.tape, hs'.output, hs'.size, fun k hk => hs'.same k hk (hno k)⟩
  have hlen : ds.length = f.params.size := by
    have key : ∀ {ts : List TypeId} {vs : List Value} {ds : List (DataW H)} {p : List MemPlace}, DataW.TrodAll enc P W 0 (fun _ => true) true ts vs ds p → ds.length = ts.length := by
      intro ts
      induction ts with
      | nil => intro vs ds p h; cases vs <;> cases ds <;> simp [DataW.TrodAll] at h ⊢
      | cons t ts ih =>
        intro vs ds p h
        obtain ⟨_, _, _, _, _, _, _, rfl, _, _, h2⟩ := trodAll_cons h
        simp [ih h2]
    simpa using key hA
  have hfn' := hfn ds hlen
  refine ⟨.bool true, rfl, post_of_below (pa := p) (pv := []) hW' ?_ ?_ ?_ rfl hbel ?_⟩
  · intro b sp hd
    rw [List.append_nil, hfn', hres]
    exact ⟨[], [], shut_bool htb _, rfl, rfl⟩
  · intro sp hsp
    rw [List.append_nil, hfn']
    refine trodAll_stays hl (fun t ht => (hts' t ht).2) hA hbel (fun x hx => by simpa using hW'.lt x (by simpa using hx)) (fun x hx => hsp x (by simpa using hx))
  · intro sp _
    rw [List.append_nil, hfn', hvars]
    rfl
  · exact ok_one hres rfl (okWide_bool_mk htb _)
end Go.Vc
namespace Go.Vc
theorem BB : (((((((type_of% @s_r_nil) ∧ (type_of% @Ret_one)) ∧ ((type_of% @Ret_two) ∧ (type_of% @Ret_three))) ∧ (((type_of% @Ret_none) ∧ (type_of% @Ret_cell_one)) ∧ ((type_of% @Ret_cell_two) ∧ (type_of% @onSome_some)))) ∧ ((((type_of% @s_r_stop) ∧ (type_of% @s_r_inBlock)) ∧ ((type_of% @s_r_ops_nil) ∧ (type_of% @s_r_skip))) ∧ (((type_of% @s_r_seq) ∧ (type_of% @s_r_block)) ∧ ((type_of% @s_r_exit) ∧ (type_of% @exR_some))))) ∧ (((((type_of% @s_r_ret) ∧ (type_of% @s_r_loop)) ∧ ((type_of% @s_r_rangeF) ∧ (type_of% @s_r_reg))) ∧ (((type_of% @s_r_dreg) ∧ (type_of% @s_d_nil)) ∧ ((type_of% @s_r_cond) ∧ (type_of% @cR_t)))) ∧ ((((type_of% @cR_f) ∧ (type_of% @cR_dec)) ∧ ((type_of% @s_r_ins) ∧ (type_of% @insR_0))) ∧ (((type_of% @insR_1) ∧ (type_of% @insR_2)) ∧ ((type_of% @insR_3) ∧ ((type_of% @insR_4) ∧ (type_of% @callR_some))))))) ∧ ((((((type_of% @callR_none) ∧ (type_of% @callV_eq)) ∧ ((type_of% @callD_some) ∧ (type_of% @callD_none))) ∧ (((type_of% @contR_some) ∧ (type_of% @storeR_some)) ∧ ((type_of% @s_d_ins) ∧ (type_of% @insD_0)))) ∧ ((((type_of% @insD_1) ∧ (type_of% @insD_2)) ∧ ((type_of% @insD_3) ∧ (type_of% @contD_some))) ∧ (((type_of% @storeD_some) ∧ (type_of% @s_r_gins)) ∧ ((type_of% @gR_tup) ∧ (type_of% @gR_tt))))) ∧ (((((type_of% @gR_ff) ∧ (type_of% @gR_tf)) ∧ ((type_of% @gR_ft) ∧ (type_of% @gR_dec_t))) ∧ (((type_of% @gR_dec_f) ∧ (type_of% @s_d_gins)) ∧ ((type_of% @gD_tup) ∧ (type_of% @gD_tt)))) ∧ ((((type_of% @gD_ff) ∧ (type_of% @gD_tf)) ∧ ((type_of% @gD_ft) ∧ (type_of% @gD_dec_t))) ∧ (((type_of% @gD_dec_f) ∧ (type_of% @putO_nothing)) ∧ ((type_of% @putO_lo) ∧ ((type_of% @putO_hi) ∧ (type_of% @mix_get)))))))) ∧ (((((((type_of% @putO_some) ∧ (type_of% @putO_none)) ∧ ((type_of% @lit_t) ∧ (type_of% @lit_c))) ∧ (((type_of% @ev_t) ∧ (type_of% @ev_c)) ∧ ((type_of% @binV_int) ∧ (type_of% @binV_str)))) ∧ ((((type_of% @binPre_int) ∧ (type_of% @binPre_str)) ∧ ((type_of% @lenV_own) ∧ (type_of% @lenV_sl))) ∧ (((type_of% @lenV_nils) ∧ (type_of% @lenV_str)) ∧ ((type_of% @idxAV_own) ∧ (type_of% @loadV_ptr))))) ∧ (((((type_of% @loadV_rp_agg) ∧ (type_of% @loadV_rp_int)) ∧ ((type_of% @upd_same) ∧ (type_of% @upd_upd))) ∧ (((type_of% @true_implies) ∧ (type_of% @false_implies)) ∧ ((type_of% @implies_true.{0}) ∧ (type_of% @keepS_eq)))) ∧ ((((type_of% @List.getD_cons_zero.{0}) ∧ (type_of% @List.getD_cons_succ.{0})) ∧ ((type_of% @List.getD_nil.{0}) ∧ (type_of% @List.map_cons.{0, 0}))) ∧ (((type_of% @List.map_nil.{0, 0}) ∧ (type_of% @List.length_cons.{0})) ∧ ((type_of% @List.length_nil.{0}) ∧ ((type_of% @List.drop_succ_cons.{0}) ∧ (type_of% @List.drop_zero.{0}))))))) ∧ ((((((type_of% @List.take_succ_cons.{0}) ∧ (type_of% @List.take_zero.{0})) ∧ ((type_of% @List.set_cons_zero.{0}) ∧ (type_of% @List.set_cons_succ.{0}))) ∧ (((type_of% @List.append_nil.{0}) ∧ (type_of% @List.nil_append.{0})) ∧ ((type_of% @List.cons_append.{0}) ∧ (type_of% @List.all_cons.{0})))) ∧ ((((type_of% @List.all_nil.{0}) ∧ (type_of% @List.getElem?_cons_zero.{0})) ∧ ((type_of% @List.getElem?_cons_succ.{0}) ∧ (type_of% @List.contains_cons.{0}))) ∧ (((type_of% @List.contains_nil.{0}) ∧ (type_of% @Option.isSome_some.{0})) ∧ ((type_of% @Option.map_some.{0, 0}) ∧ ((type_of% @Option.map_none.{0, 0}) ∧ (type_of% @true_and)))))) ∧ (((((type_of% @and_true) ∧ (type_of% @and_self)) ∧ ((type_of% @Nat.zero_add) ∧ (type_of% @Nat.add_zero))) ∧ (((type_of% @Bool.not_true) ∧ (type_of% @Bool.not_false)) ∧ ((type_of% @Bool.false_eq_true) ∧ (type_of% @Bool.or_true)))) ∧ ((((type_of% @Bool.true_or) ∧ (type_of% @Bool.or_false)) ∧ ((type_of% @Bool.false_or) ∧ (type_of% @Bool.true_and))) ∧ (((type_of% @Bool.and_true) ∧ (type_of% @Bool.and_self)) ∧ ((type_of% @decide_true) ∧ ((type_of% @decide_false) ∧ (type_of% @decide_eq_true_eq)))))))) :=
  ⟨⟨⟨⟨⟨⟨⟨@s_r_nil, @Ret_one⟩, ⟨@Ret_two, @Ret_three⟩⟩, ⟨⟨@Ret_none, @Ret_cell_one⟩, ⟨@Ret_cell_two, @onSome_some⟩⟩⟩, ⟨⟨⟨@s_r_stop, @s_r_inBlock⟩, ⟨@s_r_ops_nil, @s_r_skip⟩⟩, ⟨⟨@s_r_seq, @s_r_block⟩, ⟨@s_r_exit, @exR_some⟩⟩⟩⟩, ⟨⟨⟨⟨@s_r_ret, @s_r_loop⟩, ⟨@s_r_rangeF, @s_r_reg⟩⟩, ⟨⟨@s_r_dreg, @s_d_nil⟩, ⟨@s_r_cond, @cR_t⟩⟩⟩, ⟨⟨⟨@cR_f, @cR_dec⟩, ⟨@s_r_ins, @insR_0⟩⟩, ⟨⟨@insR_1, @insR_2⟩, ⟨@insR_3, ⟨@insR_4, @callR_some⟩⟩⟩⟩⟩⟩, ⟨⟨⟨⟨⟨@callR_none, @callV_eq⟩, ⟨@callD_some, @callD_none⟩⟩, ⟨⟨@contR_some, @storeR_some⟩, ⟨@s_d_ins, @insD_0⟩⟩⟩, ⟨⟨⟨@insD_1, @insD_2⟩, ⟨@insD_3, @contD_some⟩⟩, ⟨⟨@storeD_some, @s_r_gins⟩, ⟨@gR_tup, @gR_tt⟩⟩⟩⟩, ⟨⟨⟨⟨@gR_ff, @gR_tf⟩, ⟨@gR_ft, @gR_dec_t⟩⟩, ⟨⟨@gR_dec_f, @s_d_gins⟩, ⟨@gD_tup, @gD_tt⟩⟩⟩, ⟨⟨⟨@gD_ff, @gD_tf⟩, ⟨@gD_ft, @gD_dec_t⟩⟩, ⟨⟨@gD_dec_f, @putO_nothing⟩, ⟨@putO_lo, ⟨@putO_hi, @mix_get⟩⟩⟩⟩⟩⟩⟩, ⟨⟨⟨⟨⟨⟨@putO_some, @putO_none⟩, ⟨@lit_t, @lit_c⟩⟩, ⟨⟨@ev_t, @ev_c⟩, ⟨@binV_int, @binV_str⟩⟩⟩, ⟨⟨⟨@binPre_int, @binPre_str⟩, ⟨@lenV_own, @lenV_sl⟩⟩, ⟨⟨@lenV_nils, @lenV_str⟩, ⟨@idxAV_own, @loadV_ptr⟩⟩⟩⟩, ⟨⟨⟨⟨@loadV_rp_agg, @loadV_rp_int⟩, ⟨@upd_same, @upd_upd⟩⟩, ⟨⟨@true_implies, @false_implies⟩, ⟨@implies_true.{0}, @keepS_eq⟩⟩⟩, ⟨⟨⟨@List.getD_cons_zero.{0}, @List.getD_cons_succ.{0}⟩, ⟨@List.getD_nil.{0}, @List.map_cons.{0, 0}⟩⟩, ⟨⟨@List.map_nil.{0, 0}, @List.length_cons.{0}⟩, ⟨@List.length_nil.{0}, ⟨@List.drop_succ_cons.{0}, @List.drop_zero.{0}⟩⟩⟩⟩⟩⟩, ⟨⟨⟨⟨⟨@List.take_succ_cons.{0}, @List.take_zero.{0}⟩, ⟨@List.set_cons_zero.{0}, @List.set_cons_succ.{0}⟩⟩, ⟨⟨@List.append_nil.{0}, @List.nil_append.{0}⟩, ⟨@List.cons_append.{0}, @List.all_cons.{0}⟩⟩⟩, ⟨⟨⟨@List.all_nil.{0}, @List.getElem?_cons_zero.{0}⟩, ⟨@List.getElem?_cons_succ.{0}, @List.contains_cons.{0}⟩⟩, ⟨⟨@List.contains_nil.{0}, @Option.isSome_some.{0}⟩, ⟨@Option.map_some.{0, 0}, ⟨@Option.map_none.{0, 0}, @true_and⟩⟩⟩⟩⟩, ⟨⟨⟨⟨@and_true, @and_self⟩, ⟨@Nat.zero_add, @Nat.add_zero⟩⟩, ⟨⟨@Bool.not_true, @Bool.not_false⟩, ⟨@Bool.false_eq_true, @Bool.or_true⟩⟩⟩, ⟨⟨⟨@Bool.true_or, @Bool.or_false⟩, ⟨@Bool.false_or, @Bool.true_and⟩⟩, ⟨⟨@Bool.and_true, @Bool.and_self⟩, ⟨@decide_true, ⟨@decide_false, @decide_eq_true_eq⟩⟩⟩⟩⟩⟩⟩⟩
end Go.Vc
namespace Go.Vc
variable {P : Program} {n : Nat} {st : St} {Q : St → Prop} {k : List It} {μ : Mu} {w w' : World}
/-- a row that holds an object -/
abbrev gh (o : Obj) (env : List V := []) : Ob := ⟨0, 0, .obj o :: env⟩
/-- an object is made -/
theorem Sat.newG {w0 : World} {ow0 : Nat → Prop} {σ : Store} (h : Sat w0 ow0 μ σ w) (o : Obj) (env : List V) (he : RepAll μ (Owned μ σ) w env (tmpsOf o)) :
    ∃ id, σ id = none ∧ ∃ μ' : Mu, μ' id = .lies w.heap.size 0 0 ∧ MuLe μ μ' ∧ Sat w0 ow0 μ' (upd σ id (gh o env)) (w.alloc o) ∧ Keeps (Owned μ σ) (Owned μ' (upd σ id (gh o env))) w (w.alloc o) := by
  obtain ⟨id, hid, hσ, hfin⟩ := h.unborn
  have hle : MuLe μ (fun k => if k = id then .lies w.heap.size 0 0 else μ k) := fun k hk => by
    have : k ≠ id := fun e' => hk (e' ▸ hid)
    simp [this]
  refine ⟨id, hσ, fun k => if k = id then .lies w.heap.size 0 0 else μ k, by simp, hle, ?_⟩
  refine h.put (row := none) (World.grownBy_alloc w o none) (by simp) hle (hfin _) id (gh o env) (fun o' ho => ?_) (fun i o' hi ho => ?_) (fun b' sz' cap' hb' => ?_) (fun hk => ?_)
  · simp [upd] at ho; exact ho.symm
  · simp only [upd, if_neg hi] at ho
    exact ⟨ho, by simp⟩
  · simp only [if_true, Pl.lies.injEq] at hb'
    exact .inr (by omega)
  · simp only [if_true]
    exact .inr ⟨rfl, rfl, o, env, rfl, World.alloc_heap_new w o, RepAll.mono hle hk (by simp) _ _ he⟩
/-- an object is changed -/
theorem Sat.setG {w0 : World} {ow0 : Nat → Prop} {σ : Store} (h : Sat w0 ow0 μ σ w) {id b cap : Nat} {o : Ob} (ho : σ id = some o) (hid : μ id = .lies b 0 cap) (o' : Obj) (env : List V) (he : RepAll μ (Owned μ σ) w env (tmpsOf o')) :
    Sat w0 ow0 μ (upd σ id (gh o' env)) (w.putObj b o') ∧ Keeps (Owned μ σ) (Owned μ (upd σ id (gh o' env))) w (w.putObj b o') := by
  have hlt : b < w.heap.size := Owned.lt h ⟨id, o, 0, cap, ho, hid⟩
  refine h.put (grownBy_putObj' w b o') (fun b' hb' => by cases hb'; exact ⟨id, o, 0, cap, ho, hid⟩) (MuLe.refl _) h.fin id (gh o' env) (fun x hx' => by simp [upd] at hx'; exact hx'.symm)
    (fun i x hi hx' => ?_) (fun b' sz' cap' hb' => ?_) (fun hk => ?_)
  · simp only [upd, if_neg hi] at hx'
    refine ⟨hx', fun b' sz' cap' h4 h5 => hi ?_⟩
    cases h5
    exact h.inj i id x o _ _ _ _ _ hx' ho h4 hid
  · rw [hid] at hb'; cases hb'; exact .inl rfl
  · rw [hid]
    exact .inr ⟨rfl, rfl, o', env, rfl, World.putObj_heap_same hlt, RepAll.mono (MuLe.refl _) hk (by simp) _ _ he⟩
/-- the object of such a row -/
theorem Sat.getG {w0 : World} {ow0 : Nat → Prop} {σ : Store} (h : Sat w0 ow0 μ σ w) {id b cap : Nat} {o : Obj} {env : List V} (ho : σ id = some (gh o env)) (hid : μ id = .lies b 0 cap) : w.heap[b]? = some o ∧ RepAll μ (Owned μ σ) w env (tmpsOf o) := by
  have := h.obj id _ ho
  rw [hid] at this
  rcases this with ⟨_, _, _, h1, _⟩ | ⟨_, _, ob, env', h1, h2, h3⟩
  · omega
  · simp only [List.cons.injEq, V.obj.injEq] at h1
    obtain ⟨rfl, rfl⟩ := h1; exact ⟨h2, h3⟩
theorem cop_rngS {o : Op} {xv : VX} (h : cop P n o = .rngS false xv) : ∃ t x, o = .range t x ∧ P.underlying t = some .string ∧ cx n x = xv := by
  cases o
  case range t x =>
    simp only [cop] at h
    split at h
    · rename_i ht; simp only [VOp.rngS.injEq, true_and] at h; exact ⟨t, x, rfl, ht, h⟩
    · cases h
  case call c =>
    obtain ⟨callee, args, argTypes⟩ := c
    cases callee
    case builtin b => cases b <;> simp only [cop, nilB] at h <;> (repeat' split at h) <;> cases h
    all_goals (simp only [cop, nilB] at h; cases h)
  case unOp op t x => cases op <;> simp only [cop, nilB] at h <;> cases h
  case makeFunc f a b => cases f <;> simp only [cop, nilB] at h <;> (repeat' split at h) <;> cases h
  all_goals (simp only [cop, nilB] at h; (repeat' split at h) <;> cases h)
theorem cop_nxtS {o : Op} {xv : VX} (h : cop P n o = .nxtS xv) : ∃ x, o = .next x true ∧ cx n x = xv := by
  cases o
  case next x b =>
    simp only [cop] at h
    split at h
    · rename_i hb; subst hb; simp only [VOp.nxtS.injEq] at h; exact ⟨x, rfl, h⟩
    · cases h
  case call c =>
    obtain ⟨callee, args, argTypes⟩ := c
    cases callee
    case builtin b => cases b <;> simp only [cop, nilB] at h <;> (repeat' split at h) <;> cases h
    all_goals (simp only [cop, nilB] at h; cases h)
  case unOp op t x => cases op <;> simp only [cop, nilB] at h <;> cases h
  case makeFunc f a b => cases f <;> simp only [cop, nilB] at h <;> (repeat' split at h) <;> cases h
  all_goals (simp only [cop, nilB] at h; (repeat' split at h) <;> cases h)
/-- a range over a string begins -/
theorem Runs.rngS {i : VIns} {l : List VIns} {xv : VX} (hw : wantV st.s i.g = some true) (ho : i.op = .rngS false xv) {s : List UInt8} (hx : xv.ev st.s = .str s)
    (h : ∀ id, st.σ id = none → Runs P n (.ops l :: k) ⟨putO st.s i.dst (.gp id), upd st.σ id (gh (.stringIter ⟨s.toArray⟩ 0))⟩ Q) : Runs P n (.ops (i :: l) :: k) st Q := by
  refine Runs.ins (by rw [ho]; simp) hw fun F hn μ a w o all hi hs next Q' hnext => ?_
  subst hn
  obtain ⟨hop, hd⟩ := cins_op hi
  rw [ho] at hop
  obtain ⟨t, x, h1, h2, rfl⟩ := cop_rngS hop
  have hr := rep_cx hs x
  rw [hx] at hr
  simp only [Rep] at hr
  obtain ⟨id, hid, μ', g1, g2, g3, g4⟩ := hs.sat.newG (.stringIter ⟨s.toArray⟩ 0) [] (by simp [RepAll, tmpsOf])
  unfold Oper.wp
  have hrun : (execOp a.eval o).run P w = .ok (.value (.pointer (some ⟨w.heap.size, 0, none⟩))) (w.alloc (.stringIter ⟨s.toArray⟩ 0)) := by
    unfold execOp
    rw [h1]
    simp only [hr, Sem.run_bind, run_range_string w t ⟨s.toArray⟩ h2, Result.andThen_ok, Sem.run_pure]
    rfl
  rw [hrun]
  refine hnext _ _ _ ⟨μ', ?_⟩ (h id hid)
  rw [← hd]
  exact hs.step g3 g2 g4 (by simp) (by simp [Rep, g1])
/-- its next character, or its end -/
theorem Runs.nxtS {i : VIns} {l : List VIns} {xv : VX} (hw : wantV st.s i.g = some true) (ho : i.op = .nxtS xv) {id : Nat} (hx : xv.ev st.s = .gp id) {s : List UInt8} {pos : Nat}
    (hσ : st.σ id = some (gh (.stringIter ⟨s.toArray⟩ pos)))
    (h1 : pos < s.length → Runs P n (.ops l :: k) ⟨putO st.s i.dst (.tup [.bool true, .int .i64 pos, .int .i32 (Utf8.decode ⟨s.toArray⟩ pos).1]),
      upd st.σ id (gh (.stringIter ⟨s.toArray⟩ (pos + (Utf8.decode ⟨s.toArray⟩ pos).2)))⟩ Q)
    (h2 : ¬ pos < s.length → Runs P n (.ops l :: k) ⟨putO st.s i.dst (.tup [.bool false]), st.σ⟩ Q) : Runs P n (.ops (i :: l) :: k) st Q := by
  refine Runs.ins (by rw [ho]; simp) hw fun F hn μ a w o all hi hs next Q' hnext => ?_
  subst hn
  obtain ⟨hop, hd⟩ := cins_op hi
  rw [ho] at hop
  obtain ⟨x, h3, rfl⟩ := cop_nxtS hop
  have hr := rep_cx hs x
  rw [hx] at hr
  simp only [Rep] at hr
  split at hr
  · rename_i b cap hid
    have hob := (hs.sat.getG hσ hid).1
    have hsz : (ByteArray.mk s.toArray).size = s.length := by simp [ByteArray.size]
    unfold Oper.wp
    by_cases hp : pos < s.length
    · have hrun : (execOp a.eval o).run P w = .ok (.value (.tuple #[.bool true, .int .i64 pos, .int .i32 (Utf8.decode ⟨s.toArray⟩ pos).1]))
          (w.putObj b (.stringIter ⟨s.toArray⟩ (pos + (Utf8.decode ⟨s.toArray⟩ pos).2))) := by
        unfold execOp
        rw [h3]
        simp [hr, Instr.next, getObj, setObj, Sem.run, hob, hsz, hp, World.putObj, goInt]
      rw [hrun]
      have hset := hs.sat.setG hσ hid (.stringIter ⟨s.toArray⟩ (pos + (Utf8.decode ⟨s.toArray⟩ pos).2)) [] (by simp [RepAll, tmpsOf])
      refine hnext _ _ _ ⟨μ, ?_⟩ (h1 hp)
      rw [← hd]
      exact hs.step hset.1 (MuLe.refl _) hset.2 (by simp) (by simp only [Rep]; exact ⟨_, rfl, by simp [RepAll, Rep]⟩)
    · have hrun : (execOp a.eval o).run P w = .ok (.value (.tuple #[.bool false])) w := by
        unfold execOp
        rw [h3]
        simp [hr, Instr.next, getObj, Sem.run, hob, hsz, hp]
      rw [hrun]
      refine hnext _ _ _ ⟨μ, ?_⟩ (h2 hp)
      rw [← hd]
      exact hs.pure (by simp only [Rep]; exact ⟨_, rfl, by simp [RepAll, Rep]⟩)
  · exact hr.elim
end Go.Vc
namespace Go.Vc
variable {P : Program} {n : Nat} {st : St} {Q : St → Prop} {k : List It} {μ : Mu} {w w' : World}
/-- a call whose world is told from where it began -/
theorem Sat.compose {w0 : World} {ow0 : Nat → Prop} {μ μ' : Mu} {σ σ' : Store} (h0 : Sat w0 ow0 μ σ w) (hs' : Sat w (Owned μ σ) μ' σ' w') :
    Sat w0 ow0 μ' σ' w' ∧ Keeps (Owned μ σ) (Owned μ' σ') w w' := by
  have hkeep : Keeps (Owned μ σ) (Owned μ' σ') w w' := fun b hb hn => ⟨fun ho => hn (hs'.fresh b ho hb), hs'.same b hb hn⟩
  refine ⟨⟨Nat.le_trans h0.size hs'.size, hs'.os.trans h0.os, hs'.tape.trans h0.tape, hs'.output.trans h0.output, ?_, hs'.fin, hs'.inj, hs'.obj, ?_, h0.glob⟩, hkeep⟩
  · intro b hb hn
    have h1 : ¬ Owned μ σ b := fun ho => hn (h0.fresh b ho hb)
    exact (hs'.same b (Nat.lt_of_lt_of_le hb h0.size) h1).trans (h0.same b hb hn)
  · intro b hb hlt
    exact h0.fresh b (hs'.fresh b hb (Nat.lt_of_lt_of_le hlt h0.size)) hlt
theorem Sat.here {w0 : World} {ow0 : Nat → Prop} {σ : Store} (h : Sat w0 ow0 μ σ w) : Sat w (Owned μ σ) μ σ w :=
  ⟨Nat.le_refl _, rfl, rfl, rfl, fun _ _ _ => rfl, h.fin, h.inj, h.obj, fun b hb _ => hb, h.globHere⟩
/-- what a call of yield of the loop 'idl' comes to -/
def YC (P : Program) (idl : Nat) (x : List V) (σ : Store) (Post : Bool → Store → Prop) : Prop :=
  ∀ μ w vals l c, μ idl = .lies l 0 c → Sat w (Owned μ σ) μ σ w → RepAll μ (Owned μ σ) w x vals →
    YieldAt Fence.wide 0 P l vals.toArray w fun e w' => ∃ b σ' μ', e = .returned (.bool b) ∧ Post b σ' ∧ MuLe μ μ' ∧ Sat w (Owned μ σ) μ' σ' w'
theorem roundIn_fence {F : Fr} {m m' : Nat} {l : Nat} {f : FuncId} {tmps : Array Value} {assign body : Code} {R : Ending → World → Prop}
    (h : RoundIn Fence.wide m P l f tmps assign body w R) : RoundIn F.fence m' P l f tmps assign body w R :=
  ⟨trivial, fun c cs _ => h.2 c cs (room_wide _)⟩
theorem Runs.ycall {i : VIns} {l : List VIns} {fx : VX} {xs : List VX} (hw : wantV st.s i.g = some true) (ho : i.op = .call fx xs) {idl : Nat} (hf : fx.ev st.s = .yl idl)
    {Post : Bool → Store → Prop} (hc : YC P idl (xs.map (·.ev st.s)) st.σ Post)
    (h : ∀ b σ', Post b σ' → Runs P n (.ops l :: k) ⟨putO st.s i.dst (.bool b), σ'⟩ Q) : Runs P n (.ops (i :: l) :: k) st Q := by
  refine Runs.insIn hw fun F hn μ a w o all hi hs next Q' hnext => ?_
  subst hn
  obtain ⟨hop, hd⟩ := cins_op hi
  rw [ho] at hop
  obtain ⟨f0, args, argTypes, g1, rfl, rfl⟩ := cop_call hop
  have hfr := rep_cx hs f0
  rw [hf] at hfr
  simp only [Rep] at hfr
  split at hfr
  · rename_i lb c hid
    have hargs := rep_cxs hs args.toList
    obtain ⟨fn, tmps, assign, body, hy, hR⟩ := hc μ w _ lb c hid hs.sat.here hargs
    have hrun : (execOp a.eval o).run P w = .ok (.round lb fn tmps assign body) w := by
      unfold execOp
      rw [g1]
      simp only [resolve, hfr, Deferred.ofValue, Sem.run_bind, Sem.run_pure, Result.andThen_ok, invoke]
      rw [← hy]
      congr 2
      apply Array.ext'
      simp
    refine ⟨fun _ _ => trivial, ?_⟩
    rw [Oper.semAt_eq _ _ _ (by rw [g1]; intro c e; cases e), hrun]
    refine ⟨fence_depth F, roundIn_fence (hR.mono ?_)⟩
    rintro e w' ⟨b, σ', μ', rfl, hp, hle, hs'⟩
    obtain ⟨h1, h2⟩ := hs.sat.compose hs'
    refine hnext _ _ _ ⟨μ', ?_⟩ (h b σ' hp)
    rw [← hd]
    exact hs.step h1 hle h2 hs'.size (by simp [Rep])
  · exact hfr.elim
/-- rows beside stay -/
def Beside (σJ σ σJ' σ' : Store) : Prop := SubStore σJ' σ' ∧ ∀ id o, σJ id = none → σ id = some o → σ' id = some o ∧ σJ' id = none
theorem Beside.refl {σJ σ : Store} (h : SubStore σJ σ) : Beside σJ σ σJ σ := ⟨h, fun _ _ h1 h2 => ⟨h2, h1⟩⟩
theorem Beside.set {σJ σ σJ' σ' : Store} (h : Beside σJ σ σJ' σ') {id : Nat} {o o' : Ob} (hid : σJ' id = some o) : Beside σJ σ (upd σJ' id o') (upd σ' id o') :=
  ⟨h.1.upd2, fun i x h1 h2 => by
    obtain ⟨h3, h4⟩ := h.2 i x h1 h2
    have : i ≠ id := fun e => by rw [e, hid] at h4; cases h4
    simp [Vc.upd, this, h3, h4]⟩
theorem Beside.new {σJ σ σJ' σ' : Store} (h : Beside σJ σ σJ' σ') {id : Nat} {o : Ob} (hid : σ' id = none) : Beside σJ σ (upd σJ' id o) (upd σ' id o) :=
  ⟨h.1.upd2, fun i x h1 h2 => by
    obtain ⟨h3, h4⟩ := h.2 i x h1 h2
    have : i ≠ id := fun e => by rw [e, hid] at h3; cases h3
    simp [Vc.upd, this, h3, h4]⟩
theorem Beside.new' {σJ σ σJ' σ' : Store} (h : Beside σJ σ σJ' σ') {id : Nat} {o : Ob} (hid : σ' id = none) : Beside σJ σ σJ' (upd σ' id o) :=
  ⟨h.1.trans (SubStore.upd (SubStore.refl _) hid), fun i x h1 h2 => by
    obtain ⟨h3, h4⟩ := h.2 i x h1 h2
    have : i ≠ id := fun e => by rw [e, hid] at h3; cases h3
    simp [Vc.upd, this, h3, h4]⟩
/-- An iterator gives these, one by one. -/
def Iter (P : Program) (g : FuncId) (caps : List V) (xs : List (List V)) : Prop :=
  callable P g = true ∧ ∀ (idl : Nat) (J Jx : List (List V) → Store → Prop) (σ0 : Store),
    (∀ pre x post σJ σ, xs = pre ++ x :: post → J pre σJ → SubStore σJ σ →
      YC P idl x σ fun b σ' => ∃ σJ', Beside σJ σ σJ' σ' ∧ ((b = true ∧ J (pre ++ [x]) σJ') ∨ (b = false ∧ Jx (pre ++ [x]) σJ'))) →
    J [] σ0 → PCall P g (.yl idl :: caps) σ0 fun _ σ' => J xs σ' ∨ ∃ pre, pre <+: xs ∧ Jx pre σ'
end Go.Vc
namespace Go.Vc
variable {P : Program} {n : Nat} {st : St} {Q : St → Prop} {k : List It} {μ : Mu} {w w' : World}
/-- a round's values come into the slots -/
def putL (s : Nat → V) : List Nat → List V → Nat → V
  | p :: ps, x :: xs => putL (fun i => if i = p then x else s i) ps xs
  | _, _ => s
/-- where a round may be left to -/
def exK : List (Nat × (St → Prop)) → List It
  | [] => []
  | (id, I) :: l => .inBlock id :: .stop I :: exK l
theorem del_sub {σ σ' : Store} {id : Nat} (h : SubStore σ σ') : SubStore (del σ id) (del σ' id) := fun i o e => by
  unfold del at e ⊢
  split at e
  · cases e
  · rename_i hi; rw [if_neg hi]; exact h i o e
/-- a block that nobody owns is made -/
theorem Sat.more {w0 : World} {ow0 : Nat → Prop} {σ : Store} (h : Sat w0 ow0 μ σ w) (o : Obj) : Sat w0 ow0 μ σ (w.alloc o) ∧ Keeps (Owned μ σ) (Owned μ σ) w (w.alloc o) := by
  have hsame : ∀ b, b < w.heap.size → (w.alloc o).heap[b]? = w.heap[b]? := fun b hb => Go.RowKit.Below.heap_alloc w o b hb
  have hk : Keeps (Owned μ σ) (Owned μ σ) w (w.alloc o) := fun b hb hn => ⟨hn, hsame b hb⟩
  refine ⟨⟨by have := h.size; simp; omega, h.os, h.tape, h.output, fun b hb hn => (hsame b (Nat.lt_of_lt_of_le hb h.size)).trans (h.same b hb hn), h.fin, h.inj, fun id ob ho => ?_, h.fresh, h.glob⟩, hk⟩
  exact (h.obj id ob ho).mono (MuLe.refl μ) hk (by simp) fun b sz cap hp => hsame b (Owned.lt h ⟨id, ob, sz, cap, ho, hp⟩)
/-- the loop is entered: at an outermost one a block for deferred calls is laid -/
theorem SatM.enter {F : Fr} {a : Act} (hs : SatM F μ st a w) (fn : FuncId) (ps : Array Tmp) (assign body : Code) :
    ∃ mark W0 D, SatM F μ st { a with defers := mark ++ a.defers } W0 ∧ (Instr.enterLoop fn a.tmps ps assign body F.fence.round).run P w =
      .ok (W0.heap.size, mark) (W0.alloc (.loop { state := .ready, pending := none, fn, tmps := a.tmps, params := ps, assign, body, defers := D })) := by
  cases hrd : F.rd with
  | some lr =>
    obtain ⟨l0, r0⟩ := lr
    obtain ⟨h1, _⟩ := hs.book.rnd l0 r0 hrd
    refine ⟨[], w, r0.defers, hs, ?_⟩
    have : F.fence.round = some l0 := by simp [Fr.fence, hrd]
    rw [this]
    exact run_enterLoop_inner h1 fn a.tmps ps assign body
  | none =>
    have : F.fence.round = none := by simp [Fr.fence, hrd]
    rw [this]
    refine ⟨[{ target := .collected w.heap.size, args := #[] }], w.alloc (.deferred (some [])), w.heap.size, ?_, ?_⟩
    · obtain ⟨h1, hk⟩ := hs.sat.more (.deferred (some []))
      have hb := hs.book.keep hk
      refine ⟨h1, hs.le, hs.size, ⟨hb.rnd, ?_⟩, fun i hi => Rep.mono (MuLe.refl μ) hk (by simp) _ _ (hs.slot i hi)⟩
      obtain ⟨Ds, g1, g2, g3⟩ := hb.marks
      obtain ⟨Ds', g1', g2', g3'⟩ := hs.book.marks
      refine ⟨w.heap.size :: Ds', by simp [g1'], ?_, ?_⟩
      · refine List.nodup_cons.2 ⟨fun hin => ?_, g2'⟩
        have := (Array.getElem?_eq_some_iff.1 (g3' _ hin).2.1).1
        omega
      · intro D hD
        simp only [List.mem_cons] at hD
        rcases hD with rfl | hD
        · refine ⟨hs.sat.size, World.alloc_heap_new w _, fun ho => ?_⟩
          have := Owned.lt hs.sat ho
          omega
        · obtain ⟨q1, q2, q3⟩ := g3' D hD
          have hlt := (Array.getElem?_eq_some_iff.1 q2).1
          exact ⟨q1, (hk D hlt q3).2.trans q2, q3⟩
    · rw [run_enterLoop_outer]
      simp
theorem foldl_get (ps : List Nat) : ∀ (xs : List Value) (t : Array Value) (vs : List V) (s : Nat → V) {ow : Nat → Prop} (m : Nat), t.size = m → RepAll μ ow w vs xs → vs.length = ps.length →
    (∀ i, i < m → Rep μ ow w (s i) (t.getD i undef)) →
    ((ps.zip xs).foldl (fun t (p, v) => t.setIfInBounds p v) t).size = m ∧ ∀ i, i < m → Rep μ ow w (putL s ps vs i) (((ps.zip xs).foldl (fun t (p, v) => t.setIfInBounds p v) t).getD i undef) := by
  induction ps with
  | nil => intro xs t vs s ow m ht _ _ hi; exact ⟨by simpa using ht, by simpa [putL] using hi⟩
  | cons p ps ih =>
    intro xs t vs s ow m ht hv hl hi
    cases vs with
    | nil => simp at hl
    | cons v vs =>
      simp only [RepAll] at hv
      obtain ⟨x, xs', rfl, h1, h2⟩ := hv
      simp only [List.zip_cons_cons, List.foldl_cons, putL]
      refine ih xs' (t.setIfInBounds p x) vs _ m (by simp [ht]) h2 (by simpa using hl) fun i hlt => ?_
      by_cases hip : i = p
      · subst hip
        rw [if_pos rfl, Array.getD_eq_getD_getElem?, Array.getElem?_setIfInBounds_self_of_lt (by omega)]
        exact h1
      · rw [if_neg hip, Array.getD_eq_getD_getElem?, Array.getElem?_setIfInBounds_ne (fun e => hip e.symm), ← Array.getD_eq_getD_getElem?]
        exact hi i hlt
end Go.Vc
namespace Go.Vc
variable {P : Program} {n : Nat} {st : St} {Q : St → Prop} {k : List It} {μ : Mu} {w w' : World}
/-- a block without cells that nobody owns is changed -/
theorem poke_cells {b : Nat} {o o' : Obj} (h : w.heap[b]? = some o) (hc : ∀ off x, w.cell? ⟨b, off, none⟩ ≠ some x) :
    (∀ b', b' ≠ b → (w.putObj b o').heap[b']? = w.heap[b']?) ∧ ∀ (ow : Nat → Prop), KeepsC ow ow w (w.putObj b o') := by
  have hne : ∀ b', b' ≠ b → (w.putObj b o').heap[b']? = w.heap[b']? := fun b' hb => World.putObj_heap_other hb
  refine ⟨hne, fun ow b' _ hn => ⟨hn, fun off x hx => ?_⟩⟩
  by_cases hb : b' = b
  · subst hb; exact absurd hx (hc off x)
  · exact cells_of_heap (hne b' hb) off x hx
theorem no_cells_loop {b : Nat} {r : Loop} (h : w.heap[b]? = some (.loop r)) : ∀ off x, w.cell? ⟨b, off, none⟩ ≠ some x := fun off x => by simp [World.cell?, h]
/-- the record within a round: it is nobody's; it is changed -/
theorem SatM.poke {F F' : Fr} {a : Act} {l : Nat} {r r' : Loop} (hs : SatM F μ st a w) (hF : F.rd = some (l, r)) (hF' : F' = { F with rd := some (l, r') }) (hl : l < F.w0.heap.size → F.ow0 l) :
    SatM F' μ st a (w.putObj l (.loop r')) := by
  subst hF'
  obtain ⟨h1, h2⟩ := hs.book.rnd l r hF
  obtain ⟨hne, hk⟩ := poke_cells (o' := .loop r') h1 (no_cells_loop h1)
  have hk := hk (Owned μ st.σ)
  have hz : w.heap.size ≤ (w.putObj l (.loop r')).heap.size := by simp
  have hlt := (Array.getElem?_eq_some_iff.1 h1).1
  refine ⟨⟨by simpa using hs.sat.size, hs.sat.os, hs.sat.tape, hs.sat.output, fun b hb hn => ?_, hs.sat.fin, hs.sat.inj, fun id o ho => ?_, hs.sat.fresh, hs.sat.glob⟩, hs.le, hs.size, ⟨fun l' r'' e => ?_, ?_⟩, fun i hi => Rep.monoC (MuLe.refl μ) hk hz _ _ (hs.slot i hi)⟩
  · by_cases hb' : b = l
    · subst hb'; exact absurd (hl hb) hn
    · exact (hne b hb').trans (hs.sat.same b hb hn)
  · refine (hs.sat.obj id o ho).monoC (MuLe.refl μ) hk hz fun b sz cap hp => hne b ?_
    rintro rfl
    exact h2 ⟨id, o, sz, cap, ho, hp⟩
  · simp only [Option.some.injEq, Prod.mk.injEq] at e
    obtain ⟨rfl, rfl⟩ := e
    exact ⟨World.putObj_heap_same hlt, h2⟩
  · obtain ⟨Ds, g1, g2, g3⟩ := hs.book.marks
    refine ⟨Ds, g1, g2, fun D hD => ?_⟩
    obtain ⟨q1, q2, q3⟩ := g3 D hD
    refine ⟨q1, (hne D ?_).trans q2, q3⟩
    rintro rfl
    rw [h1] at q2; cases q2
/-- a block without cells that nobody owned becomes a row -/
theorem Sat.regain {w0 : World} {ow0 : Nat → Prop} {σ : Store} (h : Sat w0 ow0 μ σ w) {idl l c : Nat} (hσ : σ idl = none) (hid : μ idl = .lies l 0 c) (hno : ¬ Owned μ σ l) {r : Loop} (hr : w.heap[l]? = some (.loop r))
    (hl : l < w0.heap.size → ow0 l) (o : Obj) (env : List V) (he : RepAll μ (Owned μ σ) w env (tmpsOf o)) : Sat w0 ow0 μ (upd σ idl (gh o env)) (w.putObj l o) := by
  obtain ⟨hne, _⟩ := poke_cells (o' := o) hr (no_cells_loop hr)
  have hlt := (Array.getElem?_eq_some_iff.1 hr).1
  have hz : w.heap.size ≤ (w.putObj l o).heap.size := by simp
  have hown : ∀ b, Owned μ (upd σ idl (gh o env)) b → Owned μ σ b ∨ b = l := by
    rintro b ⟨id, ob, sz, cap, h1, h2⟩
    by_cases e : id = idl
    · subst e; rw [hid] at h2; cases h2; exact .inr rfl
    · rw [upd_ne e] at h1; exact .inl ⟨id, ob, sz, cap, h1, h2⟩
  have hk : KeepsC (Owned μ σ) (Owned μ (upd σ idl (gh o env))) w (w.putObj l o) := fun b ⟨off, x, hx⟩ hn => by
    have hbl : b ≠ l := by rintro rfl; exact no_cells_loop hr off x hx
    exact ⟨fun ho => (hown b ho).elim hn hbl, cells_of_heap (hne b hbl)⟩
  refine ⟨by simpa using h.size, h.os, h.tape, h.output, fun b hb hn => ?_, h.fin, ?_, ?_, ?_, h.glob⟩
  · by_cases hb' : b = l
    · subst hb'; exact absurd (hl hb) hn
    · exact (hne b hb').trans (h.same b hb hn)
  · intro id id' ob ob' b sz cap sz' cap' h1 h2 h3 h4
    by_cases e : id = idl <;> by_cases e' : id' = idl
    · rw [e, e']
    · exfalso
      subst e; rw [hid] at h3; cases h3
      rw [upd_ne e'] at h2
      exact hno ⟨id', ob', sz', cap', h2, h4⟩
    · exfalso
      subst e'; rw [hid] at h4; cases h4
      rw [upd_ne e] at h1
      exact hno ⟨id, ob, sz, cap, h1, h3⟩
    · rw [upd_ne e] at h1; rw [upd_ne e'] at h2
      exact h.inj id id' ob ob' b sz cap sz' cap' h1 h2 h3 h4
  · intro id ob ho
    by_cases e : id = idl
    · subst e
      rw [upd_same] at ho; cases ho
      rw [hid]
      exact .inr ⟨rfl, rfl, o, env, rfl, World.putObj_heap_same hlt, RepAll.monoC (MuLe.refl μ) hk hz _ _ he⟩
    · rw [upd_ne e] at ho
      refine (h.obj id ob ho).monoC (MuLe.refl μ) hk hz fun b sz cap hp => hne b ?_
      rintro rfl
      exact hno ⟨id, ob, sz, cap, ho, hp⟩
  · intro b hb hlt'
    rcases hown b hb with h1 | h1
    · exact h.fresh b h1 hlt'
    · subst h1; exact hl hlt'
end Go.Vc
namespace Go.Vc
variable {P : Program} {n : Nat} {st : St} {Q : St → Prop} {k : List It} {μ : Mu} {w w' : World}
def exKI : List (Nat × (St → Prop)) → List KI
  | [] => []
  | (id, I) :: l => .inBlock id :: .stop I :: exKI l
theorem exKI_it : ∀ (l : List (Nat × (St → Prop))), (exKI l).map (KI.it P n) = exK l
  | [] => rfl
  | (id, I) :: l => by simp [exKI, exK, KI.it, exKI_it l]
theorem kont_exits {F : Fr} {e : Exit} {a : Act} (he : e ≠ .normal) : ∀ (l : List (Nat × (St → Prop))), Kont P F Q (exKI l) e a w →
    (e = .ret ∧ ∃ st, Q st ∧ SatF F st a w) ∨ ∃ id I, (id, I) ∈ l ∧ e = .exit id ∧ ∃ st, I st ∧ SatF F st a w
  | [], h => .inl ⟨h.1.resolve_left he, h.2⟩
  | (id, I) :: l, h => by
    have h : Exit.inBlock id (Kont P F Q (.stop I :: exKI l)) e a w := h
    have up : Kont P F Q (exKI l) e a w → _ := kont_exits he l
    have go : Kont P F Q (exKI l) e a w → (e = .ret ∧ ∃ st, Q st ∧ SatF F st a w) ∨ ∃ id' I', (id', I') ∈ (id, I) :: l ∧ e = .exit id' ∧ ∃ st, I' st ∧ SatF F st a w := fun h => by
      rcases up h with h | ⟨i, I', h1, h2⟩
      · exact .inl h
      · exact .inr ⟨i, I', by simp [h1], h2⟩
    cases e with
    | normal => exact absurd rfl he
    | exit j =>
      simp only [Exit.inBlock] at h
      by_cases hj : j = id
      · rw [if_pos hj] at h
        exact .inr ⟨id, I, by simp, by rw [hj], h⟩
      · rw [if_neg hj] at h
        exact go h
    | _ => exact go h
def jumpOf : Option Nat → Code
  | none => .ret
  | some id => .exit id
/-- one round, from the side of the iterator -/
theorem round_YC {rec : Loop} (hready : rec.state = .ready) (hpend : rec.pending = none) (htm : rec.tmps.size = n) {s : Nat → V} {idl : Nat} {x : List V} {σJ σ : Store}
    (hx : x.length = rec.params.toList.length) (hrow : σJ idl = some (gh (.loop rec) ((List.range n).map s))) (hsub : SubStore σJ σ)
    (Jn : Store → Prop) (exits : List Nat) (Jx : Option Nat → Store → Prop)
    (hb : Runs P n [.code (ccode P n rec.assign), .stop fun st1 => Runs P n (.code (ccode P n rec.body) :: .stop (fun st2 => ∃ σ2, Beside (del σJ idl) (del σ idl) σ2 st2.σ ∧ Jn σ2) ::
      exK (exits.map fun id => (id, fun st2 => ∃ σ2, Beside (del σJ idl) (del σ idl) σ2 st2.σ ∧ Jx (some id) σ2))) st1 (fun st2 => ∃ σ2, Beside (del σJ idl) (del σ idl) σ2 st2.σ ∧ Jx none σ2)]
      ⟨putL s rec.params.toList x, del σ idl⟩ (fun _ => False)) :
    YC P idl x σ fun b σ' => ∃ σJ', Beside σJ σ σJ' σ' ∧ ((b = true ∧ σJ' idl = some (gh (.loop rec) ((List.range n).map s)) ∧ Jn (del σJ' idl)) ∨
      (b = false ∧ ∃ e : Option Nat, σJ' idl = some (gh (.loop { rec with state := .done, pending := some (jumpOf e) }) ((List.range n).map s)) ∧ Jx e (del σJ' idl) ∧ ∀ id, e = some id → id ∈ exits)) := by
  intro μ3 w3 vals l c hid hsat hrep
  have hσ := hsub _ _ hrow
  obtain ⟨hl, henv⟩ := hsat.getG hσ hid
  have hvl : vals.length = rec.params.toList.length := by rw [← hx]; exact hrep.length
  have hy := run_yield (P := P) (args := vals.toArray) hl (by simpa using hvl)
  have hno : ¬ Owned μ3 (del σ idl) l := by
    rintro ⟨id, o, sz, cap, h1, h2⟩
    have := hsat.inj id idl o _ l sz cap 0 c (SubStore.of_del σ idl id o h1) hσ h2 hid
    subst this
    simp [del] at h1
  have hks : Keeps (Owned μ3 σ) (Owned μ3 (del σ idl)) w3 w3 := Keeps.sub w3 (SubStore.of_del σ idl)
  have hslots : ∀ i, i < n → Rep μ3 (Owned μ3 (del σ idl)) w3 (s i) (rec.tmps.getD i undef) := fun i hi => by
    have hv : ((List.range n).map s)[i]? = some (s i) := by simp [hi]
    obtain ⟨y, h1, h2⟩ := henv.get hv
    have : rec.tmps.getD i undef = y := by
      simp only [tmpsOf] at h1
      rw [Array.getD_eq_getD_getElem?, ← Array.getElem?_toList, h1]; rfl
    rw [this]
    exact Rep.mono (MuLe.refl _) hks (Nat.le_refl _) _ _ h2
  obtain ⟨hg1, hg2⟩ := foldl_get rec.params.toList vals rec.tmps x s n htm (RepAll.mono (MuLe.refl _) hks (Nat.le_refl _) _ _ hrep) hx hslots
  have hzip : (rec.params.zip vals.toArray).foldl (fun tmps (t, a) => tmps.setIfInBounds t a) rec.tmps = (rec.params.toList.zip vals).foldl (fun t (p, v) => t.setIfInBounds p v) rec.tmps := by
    rw [← Array.foldl_toList, Array.toList_zip]
  rw [hzip] at hy
  refine ⟨rec.fn, _, rec.assign, rec.body, hy, roundIn_of_wpIn (F := Fence.wide) trivial ?_⟩
  have hs1 : SatM ⟨w3, Owned μ3 σ, μ3, n, some (l, rec)⟩ μ3 ⟨putL s rec.params.toList x, del σ idl⟩ { tmps := (rec.params.toList.zip vals).foldl (fun t (p, v) => t.setIfInBounds p v) rec.tmps, defers := [] } w3 := by
    refine ⟨hsat.drop (SubStore.of_del σ idl), MuLe.refl _, hg1, ⟨fun l' r' e => ?_, [], rfl, .nil, by simp⟩, hg2⟩
    simp only [Option.some.injEq, Prod.mk.injEq] at e
    obtain ⟨rfl, rfl⟩ := e
    exact ⟨hl, hno⟩
  have h1 := hb ⟨w3, Owned μ3 σ, μ3, n, some (l, rec)⟩ rfl [.code rec.assign, .stop _] rfl _ w3 ⟨μ3, hs1⟩
  refine wpIn_mono (F := Fence.wide.inRound l) h1 ?_
  intro e a1 w1 h
  cases e with
  | normal =>
    obtain ⟨st1, hI, μ4, hs4⟩ := h
    have hpk := hs4.poke (F' := ⟨w3, Owned μ3 σ, μ3, n, some (l, { rec with state := .busy })⟩) (r' := { rec with state := .busy }) rfl rfl (fun _ => ⟨idl, _, 0, c, hσ, hid⟩)
    refine ⟨_, run_beginRound (hs4.book.rnd l rec rfl).1 hready, ?_⟩
    have h2 := hI ⟨w3, Owned μ3 σ, μ3, n, some (l, { rec with state := .busy })⟩ rfl (.code rec.body :: .stop _ :: exKI _) (by simp only [List.map_cons, exKI_it]; rfl) a1 _ ⟨μ4, hpk⟩
    refine wpIn_mono (F := Fence.wide.inRound l) h2 ?_
    have fin : ∀ (st2 : St) (a2 : Act) (w2 : World) (jump : Option Code) (σ2 : Store), SatF ⟨w3, Owned μ3 σ, μ3, n, some (l, { rec with state := .busy })⟩ st2 a2 w2 → Beside (del σJ idl) (del σ idl) σ2 st2.σ →
        ∃ v w'', (Instr.endRound l jump).run P w2 = .ok v w'' ∧ v = .bool jump.isNone ∧ ∃ σ' μ' σJ', MuLe μ3 μ' ∧ Sat w3 (Owned μ3 σ) μ' σ' w'' ∧ Beside σJ σ σJ' σ' ∧
          σJ' idl = some (gh (.loop { rec with state := if jump.isNone then .ready else .done, pending := jump }) ((List.range n).map s)) ∧ del σJ' idl = σ2 := by
      rintro st2 a2 w2 jump σ2 ⟨μ5, hs5⟩ hbs
      obtain ⟨q1, q2⟩ := hs5.book.rnd l _ rfl
      have hid5 : μ5 idl = .lies l 0 c := (hs5.le idl (show μ3 idl ≠ .unborn by rw [hid]; simp)).trans hid
      have hn5 : st2.σ idl = none := by
        cases h : st2.σ idl with
        | none => rfl
        | some o => exact absurd ⟨idl, o, 0, c, h, hid5⟩ q2
      have hk5 : Keeps (Owned μ3 σ) (Owned μ5 st2.σ) w3 w2 := fun b hb hn => ⟨fun ho => hn (hs5.sat.fresh b ho hb), hs5.sat.same b hb hn⟩
      have henv5 := RepAll.mono hs5.le hk5 hs5.sat.size _ _ henv
      have hn2 : σ2 idl = none := by
        cases h : σ2 idl with
        | none => rfl
        | some o => have := hbs.1 idl o h; rw [hn5] at this; cases this
      refine ⟨_, _, run_endRound (P := P) jump q1, rfl, upd st2.σ idl (gh (.loop { rec with state := if jump.isNone then .ready else .done, pending := jump }) ((List.range n).map s)), μ5,
        upd σ2 idl (gh (.loop { rec with state := if jump.isNone then .ready else .done, pending := jump }) ((List.range n).map s)), hs5.le, ?_, ⟨hbs.1.upd2, fun i o h1 h2 => ?_⟩, upd_same, del_upd hn2⟩
      · exact hs5.sat.regain hn5 hid5 q2 q1 (fun _ => ⟨idl, _, 0, c, hσ, hid⟩) _ _ henv5
      · have hne : i ≠ idl := fun e => by rw [e, hrow] at h1; cases h1
        obtain ⟨g1, g2⟩ := hbs.2 i o (by rw [del_ne hne]; exact h1) (by rw [del_ne hne]; exact h2)
        rw [upd_ne hne, upd_ne hne]
        exact ⟨g1, g2⟩
    intro e a2 w2 h
    cases e with
    | normal =>
      obtain ⟨st2, ⟨σ2, hbs, hj⟩, hs2⟩ := h
      obtain ⟨v, w'', g1, rfl, σ', μ', σJ', g2, g3, g4, g5, g6⟩ := fin st2 a2 w2 none σ2 hs2 hbs
      refine ⟨_, w'', g1, true, σ', μ', rfl, ⟨σJ', g4, .inl ⟨rfl, ?_, by rw [g6]; exact hj⟩⟩, g2, g3⟩
      rw [g5]
      have : ({ rec with state := .ready, pending := none } : Loop) = rec := by rw [← hready, ← hpend]
      simp [this]
    | ret =>
      rcases kont_exits (by simp) _ h with ⟨_, st2, ⟨σ2, hbs, hj⟩, hs2⟩ | ⟨_, _, _, h, _⟩
      · obtain ⟨v, w'', g1, rfl, σ', μ', σJ', g2, g3, g4, g5, g6⟩ := fin st2 a2 w2 (some .ret) σ2 hs2 hbs
        exact ⟨_, w'', g1, false, σ', μ', rfl, ⟨σJ', g4, .inr ⟨rfl, none, g5, by rw [g6]; exact hj, by simp⟩⟩, g2, g3⟩
      · cases h
    | exit id =>
      rcases kont_exits (by simp) _ h with ⟨h, _⟩ | ⟨id', I, hin, h, st2, hI2, hs2⟩
      · cases h
      · cases h
        simp only [List.mem_map, Prod.mk.injEq] at hin
        obtain ⟨id'', hin', rfl, rfl⟩ := hin
        obtain ⟨σ2, hbs, hj⟩ := hI2
        obtain ⟨v, w'', g1, rfl, σ', μ', σJ', g2, g3, g4, g5, g6⟩ := fin st2 a2 w2 (some (.exit id'')) σ2 hs2 hbs
        exact ⟨_, w'', g1, false, σ', μ', rfl, ⟨σJ', g4, .inr ⟨rfl, some id'', g5, by rw [g6]; exact hj, by simp [hin']⟩⟩, g2, g3⟩
    | goto t => rcases kont_exits (by simp) _ h with ⟨h, _⟩ | ⟨_, _, _, h, _⟩ <;> cases h
    | panic ch => rcases kont_exits (by simp) _ h with ⟨h, _⟩ | ⟨_, _, _, h, _⟩ <;> cases h
    | outgrown => rcases kont_exits (by simp) _ h with ⟨h, _⟩ | ⟨_, _, _, h, _⟩ <;> cases h
  | ret => exact h.2.choose_spec.1.elim
  | exit id => rcases h.1 with h | h <;> cases h
  | goto t => rcases h.1 with h | h <;> cases h
  | panic ch => rcases h.1 with h | h <;> cases h
  | outgrown => rcases h.1 with h | h <;> cases h
end Go.Vc
namespace Go.Vc
variable {P : Program} {n : Nat} {st : St} {Q : St → Prop} {k : List It} {μ : Mu} {w w' : World}
theorem run_rangeCall {a : Act} {g : Operand} {l : Nat} {f : FuncId} {cv : List Value} (h : a.eval g = .func (.func f) #[] ⟨cv⟩) :
    (resolve a.eval (rangeCall g l) 0).run P w = .ok { target := .fn (.func f) ⟨cv⟩, args := #[.func (.yield l) #[] #[]] } w := by
  simp only [resolve, h, Deferred.ofValue]
  simp [go_sem]
theorem Runs.rangeF {g : VX} {ps : List Nat} {A B : VCode} {gf : FuncId} {caps : List V} (hg : g.ev st.s = .fn gf caps) {xs : List (List V)} (hit : Iter P gf caps xs)
    (hlen : ∀ x ∈ xs, x.length = ps.length) (exits : List Nat) (J : List (List V) → Store → Prop) (Jx : Option Nat → List (List V) → Store → Prop) (h0 : J [] st.σ)
    (hbody : ∀ pre x post σJ σ, xs = pre ++ x :: post → J pre σJ → SubStore σJ σ →
      Runs P n [.code A, .stop fun st1 => Runs P n (.code B :: .stop (fun st2 => ∃ σ2, Beside σJ σ σ2 st2.σ ∧ J (pre ++ [x]) σ2) ::
        exK (exits.map fun id => (id, fun st2 => ∃ σ2, Beside σJ σ σ2 st2.σ ∧ Jx (some id) (pre ++ [x]) σ2))) st1 (fun st2 => ∃ σ2, Beside σJ σ σ2 st2.σ ∧ Jx none (pre ++ [x]) σ2)]
        ⟨putL st.s ps x, σ⟩ (fun _ => False))
    (hdone : ∀ σ', J xs σ' → Runs P n k ⟨st.s, σ'⟩ Q)
    (hexit : ∀ id ∈ exits, ∀ pre σ', pre <+: xs → Jx (some id) pre σ' → Runs P n (.code (.exit id) :: k) ⟨st.s, σ'⟩ Q)
    (hret : ∀ pre σ', pre <+: xs → Jx none pre σ' → Runs P n (.code .ret :: k) ⟨st.s, σ'⟩ Q) : Runs P n (.code (.rangeF g ps A B) :: k) st Q := by
  intro F hn kt hk a w hs
  subst hn
  obtain ⟨z, kt', rfl, hy, hk'⟩ := kt_cons hk
  obtain ⟨c0, rfl, hc⟩ := it_code hy
  have hc0 : ∃ g0 ps0 a0 b0, c0 = .rangeFunc g0 ps0 a0 b0 ∧ cx F.n g0 = g ∧ ps0.toList = ps ∧ ccode P F.n a0 = A ∧ ccode P F.n b0 = B := by
    cases c0 <;> simp only [ccode, reduceCtorEq, VCode.rangeF.injEq] at hc
    case region => split at hc <;> cases hc
    exact ⟨_, _, _, _, rfl, hc.1, hc.2.1, hc.2.2.1, hc.2.2.2⟩
  obtain ⟨g0, ps0, a0, b0, rfl, rfl, rfl, rfl, rfl⟩ := hc0
  obtain ⟨μ, hs⟩ := hs
  have hrg := rep_cx hs g0
  rw [hg] at hrg
  simp only [Rep] at hrg
  obtain ⟨cv, hgv, hcv⟩ := hrg
  refine wpIn_rangeFunc fun fn _ => ?_
  obtain ⟨mark, W0, D, hs0, hrun⟩ := hs.enter (P := P) fn ps0 a0 b0
  generalize hrec : ({ state := .ready, pending := none, fn, tmps := a.tmps, params := ps0, assign := a0, body := b0, defers := D } : Loop) = rec at hrun
  have hr1 : rec.state = .ready := by rw [← hrec]
  have hr2 : rec.pending = none := by rw [← hrec]
  have hr3 : rec.tmps = a.tmps := by rw [← hrec]
  have hr4 : rec.params = ps0 := by rw [← hrec]
  have hr5 : rec.assign = a0 := by rw [← hrec]
  have hr6 : rec.body = b0 := by rw [← hrec]
  have hszn : rec.tmps.size = F.n := by rw [hr3]; exact hs.size
  have henv : RepAll μ (Owned μ st.σ) W0 ((List.range F.n).map st.s) (tmpsOf (.loop rec)) := by
    have hl : tmpsOf (.loop rec) = (List.range F.n).map fun i => a.tmps.getD i undef := by
      simp only [tmpsOf, hr3]
      apply List.ext_getElem
      · simp [hs.size]
      · intro i h1 h2
        simp only [List.length_map, List.length_range] at h2
        simp only [Array.getElem_toList, List.getElem_map, List.getElem_range]
        rw [Array.getD_eq_getD_getElem?, Array.getElem?_eq_getElem (by rw [hs.size]; exact h2)]
        rfl
    rw [hl]
    have hall : ∀ l : List Nat, (∀ i ∈ l, i < F.n) → RepAll μ (Owned μ st.σ) W0 (l.map st.s) (l.map fun i => a.tmps.getD i undef) := by
      intro l
      induction l with
      | nil => intro _; simp [RepAll]
      | cons i l ih =>
        intro h
        simp only [List.map_cons, RepAll]
        exact ⟨_, _, rfl, hs0.slot i (h i (by simp)), ih fun j hj => h j (by simp [hj])⟩
    exact hall _ fun i hi => by simpa using hi
  obtain ⟨idl, hidn, μ1, hid1, hle1, hsat1, hk1⟩ := hs0.sat.newG (.loop rec) _ henv
  generalize hE : (List.range F.n).map st.s = env at *
  have hcvt : RepAll μ1 (Owned μ1 (upd st.σ idl (gh (.loop rec) env))) (W0.alloc (.loop rec)) caps cv := by
    have h1 : RepAll μ (Owned μ st.σ) W0 caps cv := by
      have h2 := rep_cx hs0 g0
      rw [hg] at h2
      simp only [Rep] at h2
      obtain ⟨cv', h3, h4⟩ := h2
      have : a.eval g0 = .func (.func gf) #[] ⟨cv'⟩ := h3
      rw [hgv] at this
      simp only [Value.func.injEq, Array.mk.injEq, true_and] at this
      rw [this]; exact h4
    exact RepAll.mono hle1 hk1 (by simp) _ _ h1
  obtain ⟨hcall, hiter⟩ := hit
  have key := hiter idl (fun pre σJ => σJ idl = some (gh (.loop rec) env) ∧ J pre (del σJ idl))
    (fun pre σJ => ∃ e : Option Nat, σJ idl = some (gh (.loop { rec with state := .done, pending := some (jumpOf e) }) env) ∧ Jx e pre (del σJ idl) ∧ ∀ id, e = some id → id ∈ exits)
    (upd st.σ idl (gh (.loop rec) env)) ?_ ⟨upd_same, by rw [del_upd hidn]; exact h0⟩
  · refine ⟨W0.heap.size, mark, _, _, _, gf, _, _, by rw [show F.fence.round = F.fence.round from rfl]; exact hrun, run_rangeCall hgv, fun _ _ => trivial,
      by simp only [invoke]; exact run_callFunc hcall _, fence_depth F, callsIn_fence ?_⟩
    have hargs : RepAll μ1 (Owned μ1 (upd st.σ idl (gh (.loop rec) env))) (W0.alloc (.loop rec)) (.yl idl :: caps) (.func (.yield W0.heap.size) #[] #[] :: cv) := by
      simp only [RepAll]
      exact ⟨_, _, rfl, by simp [Rep, hid1], hcvt⟩
    have hcl := key μ1 _ _ hsat1.here hargs
    have hvals : (Value.func (.yield W0.heap.size) #[] #[] :: cv).toArray = #[.func (.yield W0.heap.size) #[] #[]] ++ ⟨cv⟩ := by
      apply Array.ext'; simp
    rw [hvals] at hcl
    refine hcl.mono ?_
    rintro e w2 ⟨r, σ', μ', val, rfl, hp, hle2, hs2, -⟩
    obtain ⟨hs3, hk3⟩ := hsat1.compose hs2
    have hid2 : μ' idl = .lies W0.heap.size 0 0 := (hle2 idl (by rw [hid1]; simp)).trans hid1
    -- the end of the loop, whatever the record
    have fin : ∀ (rec2 : Loop), σ' idl = some (gh (.loop rec2) env) → rec2.state ≠ .busy → ∃ w4, (Instr.endLoop W0.heap.size).run P w2 = .ok rec2.pending w4 ∧
        SatF F ⟨st.s, del σ' idl⟩ { a with defers := mark ++ a.defers } w4 := by
      intro rec2 hrow hst
      obtain ⟨hl2, henv2⟩ := hs2.getG hrow hid2
      refine ⟨_, run_endLoop hl2 hst, μ', ?_⟩
      have hset := hs3.setG hrow hid2 (.loop { rec2 with state := .exhausted }) env henv2
      have hsub : SubStore (del σ' idl) (upd σ' idl (gh (.loop { rec2 with state := .exhausted }) env)) := fun i o h => by
        unfold del at h
        split at h
        · cases h
        · rename_i hi; rw [upd_ne hi]; exact h
      have hks := Keeps.sub (μ := μ') (w2.putObj W0.heap.size (.loop { rec2 with state := .exhausted })) hsub
      have hsz2 := hs2.size
      have hkall : Keeps (Owned μ st.σ) (Owned μ' (del σ' idl)) W0 (w2.putObj W0.heap.size (.loop { rec2 with state := .exhausted })) := fun b hb hn => by
        obtain ⟨q1, q2⟩ := hk1 b hb hn
        have hb1 : b < (W0.alloc (.loop rec)).heap.size := by simp; omega
        obtain ⟨q3, q4⟩ := hk3 b hb1 q1
        have hb2 : b < w2.heap.size := Nat.lt_of_lt_of_le hb1 hsz2
        obtain ⟨q5, q6⟩ := hset.2 b hb2 q3
        exact ⟨fun ho => q5 (ho.sub hsub), q6.trans (q4.trans q2)⟩
      have hle3 : MuLe μ μ' := hle1.trans hle2
      have hz : W0.heap.size ≤ (w2.putObj W0.heap.size (.loop { rec2 with state := .exhausted })).heap.size := by
        simp at hsz2 ⊢; omega
      exact ⟨hset.1.drop hsub, hs0.le.trans hle3, hs0.size, hs0.book.keep hkall, fun i hi => Rep.mono hle3 hkall hz _ _ (hs0.slot i hi)⟩
    rcases hp with ⟨hrow, hj⟩ | ⟨pre, hpre, e, hrow, hj, hin⟩
    · obtain ⟨w4, g1, g2⟩ := fin rec hrow (by rw [hr1]; simp)
      refine ⟨_, w4, g1, ?_⟩
      rw [hr2]
      exact hdone _ hj F rfl kt' hk' _ _ g2
    · obtain ⟨w4, g1, g2⟩ := fin _ hrow (by simp)
      refine ⟨_, w4, g1, ?_⟩
      cases e with
      | none => exact hret pre _ hpre hj F rfl (.code .ret :: kt') (by simp [KI.it, hk', ccode]) _ _ g2
      | some id => exact hexit id (hin id rfl) pre _ hpre hj F rfl (.code (.exit id) :: kt') (by simp [KI.it, hk', ccode]) _ _ g2
  · intro pre x post σJ σ hxs hJ hsub
    have hx : x.length = rec.params.toList.length := by rw [hr4]; exact hlen x (by rw [hxs]; simp)
    have hb := hbody pre x post (del σJ idl) (del σ idl) hxs hJ.2 (del_sub hsub)
    subst hE
    refine round_YC hr1 hr2 hszn hx hJ.1 hsub (J (pre ++ [x])) exits (fun e => Jx e (pre ++ [x])) ?_
    rw [hr4, hr5, hr6]
    exact hb
end Go.Vc
namespace Go.Vc
variable {P : Program} {n : Nat} {st : St} {Q : St → Prop} {k : List It}
/-- what may come next -/
def readyV (deps : List (List Nat)) (listed : List Nat) : List Nat := (List.range deps.length).filter fun i => !listed.contains i && (deps.getD i []).all listed.contains
def allV (P : Program) (l : List VIns) (rec : List Nat → St → Prop) (listed : List Nat) (x : St) : List Nat → Prop
  | [] => True
  | i :: is => (match l[i]? with
      | some ins => T P ins x (rec (i :: listed))
      | none => False) ∧ allV P l rec listed x is
/-- all orders -/
def anyV (P : Program) (l : List VIns) (deps : List (List Nat)) (Q : St → Prop) : Nat → List Nat → St → Prop
  | 0, listed, x => readyV deps listed = [] ∧ Q x
  | f + 1, listed, x => match readyV deps listed with
      | [] => Q x
      | i :: is => allV P l (anyV P l deps Q f) listed x (i :: is)
theorem allV_mem {l : List VIns} {rec : List Nat → St → Prop} {listed : List Nat} {x : St} : ∀ {is : List Nat}, allV P l rec listed x is → ∀ i ∈ is, ∃ ins, l[i]? = some ins ∧ T P ins x (rec (i :: listed))
  | [], _, _, hi => by cases hi
  | j :: is, h, i, hi => by
    obtain ⟨h1, h2⟩ := h
    rcases List.mem_cons.1 hi with rfl | hi
    · cases hl : l[i]? with
      | none => rw [hl] at h1; exact h1.elim
      | some ins => rw [hl] at h1; exact ⟨ins, rfl, h1⟩
    · exact allV_mem h2 i hi
abbrev depsOf (ops : Array Oper) : List (List Nat) := ops.toList.map fun o => (o.after.toList.filter (Region.binds .any)).map (·.on)
theorem readyV_eq {ops : Array Oper} {arr : Array Bool} {listed : List Nat} (hs : arr.size = ops.size) (hl : ∀ i, i < ops.size → arr.getD i true = listed.contains i)
    (ho : ∀ i ∈ listed, i < ops.size) : Region.ready .any ops arr = readyV (depsOf ops) listed := by
  unfold Region.ready readyV
  have hlen : (depsOf ops).length = ops.size := by simp [depsOf]
  rw [hlen]
  refine List.filter_congr fun i hi => ?_
  have hi : i < ops.size := by simpa using hi
  rw [hl i hi]
  congr 1
  have h1 : ops[i]? = some ops[i] := Array.getElem?_eq_getElem hi
  have h2 : (depsOf ops).getD i [] = (ops[i].after.toList.filter (Region.binds .any)).map (·.on) := by
    rw [List.getD_eq_getElem?_getD]
    simp [depsOf, hi]
  rw [h1, h2]
  simp only [Option.map_some, Option.getD_some]
  rw [← Array.all_toList, List.all_map, List.all_filter]
  congr 1
  funext e
  simp only [Function.comp]
  have h3 : arr.getD e.on false = listed.contains e.on := by
    by_cases he : e.on < ops.size
    · rw [← hl _ he, Array.getD_eq_getD_getElem?, Array.getD_eq_getD_getElem?, Array.getElem?_eq_getElem (by omega)]
      rfl
    · rw [Array.getD_eq_getD_getElem?, Array.getElem?_eq_none (by omega)]
      simp only [Option.getD_none]
      symm
      rw [Bool.eq_false_iff]
      intro hc
      exact he (ho _ (by simpa using hc))
  rw [h3]
theorem wpAnyT_of_anyV {ops : Array Oper} {Q : St → Prop} : ∀ (f : Nat) (arr : Array Bool) (listed : List Nat) (x : St), arr.size = ops.size → (∀ i, i < ops.size → arr.getD i true = listed.contains i) →
    (∀ i ∈ listed, i < ops.size) → anyV P (ops.toList.map (cins P n ops)) (depsOf ops) Q f listed x → wpAnyT P n ops Q f arr x
  | 0, arr, listed, x, hs, hl, ho, h => ⟨by rw [readyV_eq hs hl ho]; exact h.1, h.2⟩
  | f + 1, arr, listed, x, hs, hl, ho, h => by
    have hr := readyV_eq hs hl ho
    unfold anyV at h
    refine ⟨fun h0 => ?_, fun i hi => ?_⟩
    · rw [hr] at h0
      rw [h0] at h
      exact h
    · rw [hr] at hi
      have hlt : i < ops.size := by
        have := (List.mem_filter.1 hi).1
        simpa [depsOf] using this
      have hall : allV P (ops.toList.map (cins P n ops)) (anyV P (ops.toList.map (cins P n ops)) (depsOf ops) Q f) listed x (readyV (depsOf ops) listed) := by
        cases hrr : readyV (depsOf ops) listed with
        | nil => exact trivial
        | cons j js => rw [hrr] at h; exact h
      obtain ⟨ins, h1, h2⟩ := allV_mem hall i hi
      have h3 : ops[i]? = some ops[i] := Array.getElem?_eq_getElem hlt
      have h4 : ins = cins P n ops ops[i] := by simpa [hlt] using h1.symm
      unfold Tn
      simp only [h3]
      rw [← h4]
      refine h2.mono fun x' hx' => wpAnyT_of_anyV f _ (i :: listed) x' (by simpa using hs) (fun j hj => ?_) (fun j hj => ?_) hx'
      · by_cases e : j = i
        · subst e
          rw [Array.getD_eq_getD_getElem?, Array.getElem?_setIfInBounds_self_of_lt (by omega)]
          simp
        · rw [Array.getD_eq_getD_getElem?, Array.getElem?_setIfInBounds_ne (fun e' => e e'.symm), ← Array.getD_eq_getD_getElem?, hl j hj]
          simp [e]
      · rcases List.mem_cons.1 hj with rfl | hj
        · exact hlt
        · exact ho j hj
theorem Runs.regA (hm : P.follows .mixedOrders = true) {l : List VIns} {deps : List (List Nat)} (h : anyV P l deps (fun x => Runs P n k x Q) l.length [] st) : Runs P n (.code (.regA l deps) :: k) st Q := by
  intro F hn kt hk a w hs
  obtain ⟨z, kt', rfl, hy, hk'⟩ := kt_cons hk
  obtain ⟨c0, rfl, hcc⟩ := it_code hy
  have hc0 : ∃ id ops, c0 = .region id ops true ∧ ops.toList.map (cins P n ops) = l ∧ depsOf ops = deps := by
    cases c0 <;> simp only [ccode, reduceCtorEq] at hcc
    rename_i id ops draw
    cases draw
    · simp at hcc
    · simp only [Bool.true_and] at hcc
      split at hcc
      · simp only [VCode.regA.injEq] at hcc
        exact ⟨id, ops, rfl, hcc.1, hcc.2⟩
      · simp at hcc
  obtain ⟨id, ops, rfl, rfl, rfl⟩ := hc0
  have hs' : SatF F st a { w with drawn := w.drawn + 1 } := by
    obtain ⟨μ, hs⟩ := hs
    have hk : Keeps (Owned μ st.σ) (Owned μ st.σ) w { w with drawn := w.drawn + 1 } := fun _ _ h => ⟨h, rfl⟩
    refine ⟨μ, ⟨⟨hs.sat.size, hs.sat.os, hs.sat.tape, hs.sat.output, hs.sat.same, hs.sat.fin, hs.sat.inj, fun id o ho => ?_, hs.sat.fresh, hs.sat.glob⟩, hs.le, hs.size, hs.book.keep hk, fun i hi => ?_⟩⟩
    · exact (hs.sat.obj id o ho).mono (MuLe.refl μ) hk (Nat.le_refl _) (fun _ _ _ _ => rfl)
    · exact Rep.mono (MuLe.refl μ) hk (Nat.le_refl _) _ _ (hs.slot i hi)
  refine wpIn_region_any hm (wpAny_of_T (Q := fun x => Runs P n k x Q) hn (fun x a w hs h => h F hn kt' hk' a w hs) _ _ _ _ _ hs' ?_)
  have := wpAnyT_of_anyV (P := P) (n := n) (Q := fun x => Runs P n k x Q) (ops := ops) ops.size (Array.replicate ops.size false) [] st (by simp) (fun i hi => by
    rw [Array.getD_eq_getD_getElem?, Array.getElem?_replicate, if_pos hi]; simp) (by simp) (by simpa using h)
  exact this
end Go.Vc
namespace Go.Vc
variable {P : Program} {n : Nat} {st : St} {Q : St → Prop} {k : List It}
theorem T.pure {P : Program} {i : VIns} {x : St} {K : St → Prop} {v : V} (hw : wantV x.s i.g = some true) (hk : okind i.op = 0) (hp : vpre x.s i.op) (hv : vpure x.σ x.s i.op = some v) (h : K ⟨putO x.s i.dst v, x.σ⟩) : T P i x K := by
  unfold T
  simp only [hw]
  unfold TO
  simp only [hk]
  exact ⟨hp, v, hv, h⟩
theorem T.store {P : Program} {d : Option Nat} {sz : Nat} {xa xv : VX} {x : St} {K : St → Prop} {σ' : Store} (hv : storeS x.σ sz (xa.ev x.s) (xv.ev x.s) = some σ') (h : K ⟨putO x.s d (.tup []), σ'⟩) :
    T P ⟨d, .store sz xa xv, none⟩ x K := ⟨σ', hv, h⟩
/-- is no slot of the region's this one? -/
def noDst (l : List VIns) (d : Nat) : Bool := l.all fun i => i.dst != some d
/-- the slot of the k-th one holds its value -/
def slotIs (l : List VIns) (v : Nat → V) (s : Nat → V) (k : Nat) : Prop := match (l[k]?).bind (·.dst) with
  | some d => s d = v k
  | none => True
def isSt (l : List VIns) (i : Nat) : Bool := match l[i]? with
  | some ins => okind ins.op != 0
  | none => false
/-- how many stores stand ahead -/
def nst (l : List VIns) (i : Nat) : Nat := ((List.range i).filter (isSt l)).length
/-- what the i-th one does -/
def det1 (l : List VIns) (deps : List (List Nat)) (x0 : St) (v : Nat → V) (σs : Nat → Store) (i : Nat) (ins : VIns) : Prop :=
  ∀ s' : Nat → V, (∀ k ∈ deps.getD i [], slotIs l v s' k) → (∀ d, noDst l d = true → s' d = x0.s d) → match ins with
    | ⟨_, .store sz xa xv, none⟩ => storeS (σs (nst l i)) sz (xa.ev s') (xv.ev s') = some (σs (nst l i + 1)) ∧ v i = .tup []
    | ins => okind ins.op = 0 ∧ wantV s' ins.g = some true ∧ vpre s' ins.op ∧ ∀ p, vpure (σs p) s' ins.op = some (v i)
def detL (l : List VIns) (deps : List (List Nat)) (x0 : St) (v : Nat → V) (σs : Nat → Store) : Nat → List VIns → Prop
  | _, [] => True
  | i, ins :: r => det1 l deps x0 v σs i ins ∧ detL l deps x0 v σs (i + 1) r
/-- the stores wait for one another; no slot is written twice -/
def detB (l : List VIns) (deps : List (List Nat)) : Bool :=
  ((List.range l.length).all fun j => (List.range j).all fun i => !(isSt l i && isSt l j) || (deps.getD j []).contains i) &&
  ((List.range l.length).all fun j => (List.range j).all fun i => ((l[i]?).bind (·.dst)).isNone || (l[i]?).bind (·.dst) != (l[j]?).bind (·.dst)) && l.length == deps.length &&
  (List.range deps.length).all fun i => (deps.getD i []).all fun j => decide (j < i)
theorem detL_get {l : List VIns} {deps : List (List Nat)} {x0 : St} {v : Nat → V} {σs : Nat → Store} : ∀ {r : List VIns} {i j : Nat} {ins : VIns}, detL l deps x0 v σs i r → r[j]? = some ins → det1 l deps x0 v σs (i + j) ins
  | [], _, _, _, _, h => by simp at h
  | a :: r, i, 0, ins, hd, h => by simp at h; subst h; exact hd.1
  | a :: r, i, j + 1, ins, hd, h => by
    simp only [List.getElem?_cons_succ] at h
    have := detL_get hd.2 h
    rwa [show i + 1 + j = i + (j + 1) by omega] at this
/-- the state behind these -/
structure Agr (l : List VIns) (x0 : St) (v : Nat → V) (σs : Nat → Store) (listed : List Nat) (x : St) : Prop where
  slot : ∀ k ∈ listed, slotIs l v x.s k
  free : ∀ d, noDst l d = true → x.s d = x0.s d
  store : x.σ = σs (listed.filter (isSt l)).length
theorem readyV_mem {deps : List (List Nat)} {listed : List Nat} {i : Nat} (h : i ∈ readyV deps listed) : i < deps.length ∧ i ∉ listed ∧ ∀ k ∈ deps.getD i [], k ∈ listed := by
  unfold readyV at h
  obtain ⟨h1, h2⟩ := List.mem_filter.1 h
  simp only [Bool.and_eq_true, Bool.not_eq_true', List.all_eq_true] at h2
  exact ⟨by simpa using h1, by simpa using h2.1, fun k hk => by simpa using h2.2 k hk⟩
theorem allV_of {l : List VIns} {rec : List Nat → St → Prop} {listed : List Nat} {x : St} : ∀ {is : List Nat}, (∀ i ∈ is, ∃ ins, l[i]? = some ins ∧ T P ins x (rec (i :: listed))) → allV P l rec listed x is
  | [], _ => trivial
  | j :: is, h => by
    obtain ⟨ins, h1, h2⟩ := h j (by simp)
    refine ⟨by rw [h1]; exact h2, allV_of fun i hi => h i (by simp [hi])⟩
theorem pigeon : ∀ (n : Nat) (L : List Nat), L.Nodup → (∀ k ∈ L, k < n) → L.length ≤ n ∧ (L.length = n → ∀ k, k < n → k ∈ L)
  | 0, L, _, h => by
    cases L with
    | nil => simp
    | cons a L => have := h a (by simp); omega
  | n + 1, L, hd, h => by
    by_cases hn : n ∈ L
    · have h1 := pigeon n (L.erase n) (hd.erase n) fun k hk => by
        have h2 := h k (List.mem_of_mem_erase hk)
        have h3 : k ≠ n := fun e => by subst e; exact (List.Nodup.not_mem_erase hd) hk
        omega
      have h4 := List.length_erase_of_mem hn
      have h5 : 0 < L.length := List.length_pos_of_mem hn
      refine ⟨by omega, fun he k hk => ?_⟩
      by_cases hkn : k = n
      · rw [hkn]; exact hn
      · exact List.mem_of_mem_erase (h1.2 (by omega) k (by omega))
    · have h1 := pigeon n L hd fun k hk => by
        have h2 := h k hk
        have h3 : k ≠ n := fun e => hn (e ▸ hk)
        omega
      exact ⟨by omega, fun he => by omega⟩
theorem same_len {A B : List Nat} (ha : A.Nodup) (hb : B.Nodup) (h : ∀ x, x ∈ A ↔ x ∈ B) : A.length = B.length := ((List.perm_ext_iff_of_nodup ha hb).2 h).length_eq
theorem range_nodup (n : Nat) : (List.range n).Nodup := List.nodup_range
theorem anyV_det {l : List VIns} {deps : List (List Nat)} {x0 : St} {v : Nat → V} {σs : Nat → Store} (hB : detB l deps = true) (hd : detL l deps x0 v σs 0 l) {Q : St → Prop}
    (hQ : ∀ x, (∀ k, slotIs l v x.s k) → (∀ d, noDst l d = true → x.s d = x0.s d) → x.σ = σs (nst l l.length) → Q x) :
    ∀ (f : Nat) (listed : List Nat) (x : St), f + listed.length = l.length → listed.Nodup → (∀ k ∈ listed, k < l.length ∧ ∀ j ∈ deps.getD k [], j ∈ listed) → Agr l x0 v σs listed x →
      anyV P l deps Q f listed x := by
  simp only [detB, Bool.and_eq_true, beq_iff_eq, List.all_eq_true, List.mem_range, decide_eq_true_eq, Bool.or_eq_true, Bool.not_eq_true'] at hB
  obtain ⟨⟨⟨hS, hD⟩, hlen⟩, hlt⟩ := hB
  have fin : ∀ (listed : List Nat) (x : St), listed.length = l.length → listed.Nodup → (∀ k ∈ listed, k < l.length) → Agr l x0 v σs listed x → Q x := by
    intro listed x hl hn hk ha
    have hall := (pigeon l.length listed hn hk).2 hl
    refine hQ x (fun k => ?_) ha.free ?_
    · by_cases hkl : k < l.length
      · exact ha.slot k (hall k hkl)
      · unfold slotIs; rw [List.getElem?_eq_none (by omega)]; trivial
    · rw [ha.store]
      congr 1
      refine same_len (hn.filter _) ((range_nodup _).filter _) fun a => ?_
      simp only [List.mem_filter, List.mem_range]
      exact ⟨fun ⟨h1, h2⟩ => ⟨hk a h1, h2⟩, fun ⟨h1, h2⟩ => ⟨hall a h1, h2⟩⟩
  intro f
  induction f with
  | zero =>
    intro listed x hl hn hk ha
    have hall := (pigeon l.length listed hn fun k h => (hk k h).1).2 (by omega)
    refine ⟨?_, fin listed x (by omega) hn (fun k h => (hk k h).1) ha⟩
    cases hr : readyV deps listed with
    | nil => rfl
    | cons i is =>
      have := readyV_mem (deps := deps) (listed := listed) (i := i) (by rw [hr]; simp)
      exact absurd (hall i (by omega)) this.2.1
  | succ f ih =>
    intro listed x hl hn hk ha
    have step : ∀ i ∈ readyV deps listed, ∃ ins, l[i]? = some ins ∧ T P ins x (anyV P l deps Q f (i :: listed)) := by
      intro i hi
      obtain ⟨h1, h2, h3⟩ := readyV_mem hi
      have hil : i < l.length := by omega
      refine ⟨l[i], List.getElem?_eq_getElem hil, ?_⟩
      have hins : l[i]? = some l[i] := List.getElem?_eq_getElem hil
      have hdi := detL_get hd hins
      rw [Nat.zero_add] at hdi
      have hd1 := hdi x.s (fun k hk' => ha.slot k (h3 k hk')) ha.free
      -- the state behind it
      have next : ∀ (w : V) (σ' : Store), w = v i → σ' = σs ((i :: listed).filter (isSt l)).length → Agr l x0 v σs (i :: listed) ⟨putO x.s (l[i]).dst w, σ'⟩ := by
        rintro w σ' rfl rfl
        refine ⟨fun k hk' => ?_, fun d hdd => ?_, rfl⟩
        · by_cases hki : k = i
          · subst hki
            unfold slotIs
            rw [hins]
            simp only [Option.bind_some]
            cases hdst : (l[k]).dst with
            | none => trivial
            | some d => simp [putO]
          · have hkl : k ∈ listed := by simpa [hki] using hk'
            have hs := ha.slot k hkl
            unfold slotIs at hs ⊢
            cases hdk : (l[k]?).bind (·.dst) with
            | none => trivial
            | some d =>
              rw [hdk] at hs
              simp only at hs ⊢
              have hne : (l[i]).dst ≠ some d := fun e => by
                have hkl' := (hk k hkl).1
                rcases Nat.lt_or_gt_of_ne hki with g | g
                · have := hD i hil k g
                  rw [hdk, hins] at this
                  simp [e] at this
                · have := hD k hkl' i g
                  rw [hdk, hins] at this
                  simp [e] at this
              rw [← hs]
              cases hdst : (l[i]).dst with
              | none => rfl
              | some d' => simp only [putO]; rw [if_neg (fun e => hne (by rw [hdst, e]))]
        · have hne : (l[i]).dst ≠ some d := fun e => by
            have := List.all_eq_true.1 hdd l[i] (List.getElem_mem hil)
            rw [e] at this; simp at this
          rw [← ha.free d hdd]
          cases hdst : (l[i]).dst with
          | none => rfl
          | some d' => simp only [putO]; rw [if_neg (fun e => hne (by rw [hdst, e]))]
      have again : ∀ x', Agr l x0 v σs (i :: listed) x' → anyV P l deps Q f (i :: listed) x' := fun x' ha' =>
        ih (i :: listed) x' (by simp; omega) (List.nodup_cons.2 ⟨h2, hn⟩) (fun k hk' => by
          rcases List.mem_cons.1 hk' with rfl | hk'
          · exact ⟨hil, fun j hj => List.mem_cons_of_mem _ (h3 j hj)⟩
          · exact ⟨(hk k hk').1, fun j hj => List.mem_cons_of_mem _ ((hk k hk').2 j hj)⟩) ha'
      generalize hI : l[i] = ins at *
      obtain ⟨dst, op, g⟩ := ins
      split at hd1
      · rename_i _ d' sz xa xv heq
        simp only [VIns.mk.injEq] at heq
        obtain ⟨rfl, rfl, rfl⟩ := heq
        have hst : isSt l i = true := by unfold isSt; rw [hins]; rfl
        have hcnt : (listed.filter (isSt l)).length = nst l i := by
          unfold nst
          refine same_len (hn.filter _) ((range_nodup _).filter _) fun a => ?_
          simp only [List.mem_filter, List.mem_range]
          refine ⟨fun ⟨g1, g2⟩ => ⟨?_, g2⟩, fun ⟨g1, g2⟩ => ⟨?_, g2⟩⟩
          · have hal := (hk a g1).1
            rcases Nat.lt_trichotomy a i with g | g | g
            · exact g
            · subst g; exact absurd g1 h2
            · exfalso
              have := hS a hal i g
              rw [hst, g2] at this
              simp at this
              exact h2 ((hk a g1).2 i (by simpa using this))
          · have := hS i hil a g1
            rw [hst, g2] at this
            simp at this
            exact h3 a (by simpa using this)
        have hx : x.σ = σs (nst l i) := by rw [ha.store, hcnt]
        refine T.store (x := x) (σ' := σs (nst l i + 1)) (by rw [hx]; exact hd1.1) (again _ (next _ _ hd1.2.symm ?_))
        rw [List.filter_cons_of_pos hst, List.length_cons, hcnt]
      · obtain ⟨q1, q2, q3, q4⟩ := hd1
        have hst : isSt l i = false := by unfold isSt; rw [hins]; simp only; simp only at q1; rw [q1]; rfl
        refine T.pure q2 q1 q3 (by rw [ha.store]; exact q4 _) (again _ (next _ _ rfl ?_))
        rw [List.filter_cons_of_neg (by rw [hst]; simp), ha.store]
    unfold anyV
    cases hr : readyV deps listed with
    | nil =>
      exfalso
      -- the first one that is not listed is ready
      have hex : ∃ m, m < l.length ∧ m ∉ listed := by
        refine Classical.byContradiction fun hno => ?_
        have hall : ∀ m, m < l.length → m ∈ listed := fun m hm => Classical.byContradiction fun h => hno ⟨m, hm, h⟩
        have := same_len hn (range_nodup l.length) fun a => ⟨fun h => List.mem_range.2 (hk a h).1, fun h => hall a (List.mem_range.1 h)⟩
        simp at this; omega
      obtain ⟨m, hm, hmin⟩ : ∃ m, (m < l.length ∧ m ∉ listed) ∧ ∀ j, j < m → ¬ (j < l.length ∧ j ∉ listed) := by
        obtain ⟨m, hm⟩ := hex
        induction m using Nat.strongRecOn with
        | _ m ihm =>
          by_cases h : ∃ j, j < m ∧ (j < l.length ∧ j ∉ listed)
          · obtain ⟨j, g1, g2⟩ := h; exact ihm j g1 g2
          · exact ⟨m, hm, fun j hj hc => h ⟨j, hj, hc⟩⟩
      have hready : m ∈ readyV deps listed := by
        unfold readyV
        refine List.mem_filter.2 ⟨List.mem_range.2 (by omega), ?_⟩
        simp only [Bool.and_eq_true, Bool.not_eq_true', List.all_eq_true]
        refine ⟨by simpa using hm.2, fun j hj => ?_⟩
        have hjm := hlt m (by omega) j hj
        have := hmin j hjm
        have : j ∈ listed := Classical.byContradiction fun h => this ⟨by omega, h⟩
        simpa using this
      rw [hr] at hready; cases hready
    | cons i is =>
      have hall := allV_of step
      rw [hr] at hall
      exact hall
/-- whatever the order, the same comes out -/
theorem Runs.regD (hm : P.follows .mixedOrders = true) {l : List VIns} {deps : List (List Nat)} (v : Nat → V) (σs : Nat → Store) (hB : detB l deps = true) (h0 : st.σ = σs 0) (hd : detL l deps st v σs 0 l)
    (hQ : ∀ s', (∀ k, slotIs l v s' k) → (∀ d, noDst l d = true → s' d = st.s d) → Runs P n k ⟨s', σs (nst l l.length)⟩ Q) : Runs P n (.code (.regA l deps) :: k) st Q := by
  refine Runs.regA hm (anyV_det hB hd (Q := fun x => Runs P n k x Q) (fun x h1 h2 h3 => ?_) l.length [] st (by simp) List.nodup_nil (by simp) ⟨by simp, fun _ _ => rfl, by simpa using h0⟩)
  obtain ⟨s', σ'⟩ := x
  simp only at h1 h2 h3
  rw [h3]
  exact hQ s' h1 h2
end Go.Vc
namespace Go.Vc
theorem SubStore.delK {σ0 σ : Store} {e : Nat} (h : SubStore σ0 σ) (he : σ0 e = Option.none) : SubStore σ0 (del σ e) := fun i x hx => by
  have hne : i ≠ e := fun e' => by rw [e', he] at hx; cases hx
  rw [del_ne hne]
  exact h i x hx
theorem s_zero {P : Program} {O : Orc P} {n : Nat} {k : List It} {st : St} {Q : St → Prop} : step P O n 0 (.r k) st Q = Runs P n k st Q := rfl
theorem Wk.nils {σ σ' : Store} (sz : Nat) : Wk σ σ' .nils (.sl sz []) := by
  intro μ w0 w ow0 x hs hr
  simp only [Rep] at hr ⊢
  exact ⟨none, 0, by simpa using hr, by simp, .inl trivial⟩
/-- a row that is made, or none yet -/
def OutV (K σ : Store) (e sz : Nat) (v : V) (rows : List V) : Prop := (v = .nils ∧ rows = []) ∨ ∃ id, v = .own id 0 rows.length ∧ σ id = some ⟨e, sz, rows⟩ ∧ K id = none
theorem OutV.wk {K σ : Store} {e sz : Nat} {v : V} {rows : List V} (h : OutV K σ e sz v rows) {K' : Store} (hK : SubStore K' K) (hs : SubStore K' σ) : Wk σ K' v (.sl sz rows) := by
  rcases h with ⟨rfl, rfl⟩ | ⟨id, rfl, ho, hk⟩
  · exact Wk.nils sz
  · have := Wk.own hs ho (hK.none hk) (off := 0) (len := rows.length) (by simp)
    rw [List.drop_zero, List.take_length] at this
    exact this
theorem OutV.retv {K σ : Store} {e sz : Nat} {v : V} {rows : List V} (h : OutV K σ e sz v rows) (hs : SubStore K σ) {v0 : V} (hv : V.sl sz rows = v0) :
    RetV v σ fun r σ' => r = v0 ∧ σ' = K := ⟨_, K, hs, h.wk (SubStore.refl K) hs, hv, rfl⟩
theorem effR_put {P : Program} {n : Nat} {Q : St → Prop} {k : List It} {O : Orc P} {f : Nat} {d : Option Nat} {l : List VIns} {v : Nat → V} {ob : Ob} {s : Nat → V} {σ : Store} {e : Option Nat}
    (h : ∀ id σ', SubStore (delO σ e) σ' → σ' id = some ob → σ id = none → step P O n f (.r (.ops l :: k)) ⟨putO s d (v id), σ'⟩ Q) :
    effR P O n f l k d ⟨s, σ⟩ Q (some fun id => (v id, Vc.upd (delO σ e) id ob)) := by
  rw [effR_some]
  refine fun id hid => h id _ ((SubStore.refl _).upd ?_) upd_same hid
  cases e with
  | none => exact hid
  | some e =>
    simp only [delO, del]
    split
    · rfl
    · exact hid
/-- what is appended to -/
theorem OutV.dst {K σ : Store} {e sz : Nat} {v : V} {rows : List V} (h : OutV K σ e sz v rows) {σ1 : Store} (hs : SubStore σ σ1) :
    ∃ idA, dstRows σ1 e sz v = some (rows, idA) ∧ ∀ K' : Store, SubStore K' K → ∀ σ2, SubStore K' σ2 → SubStore K' (delO σ2 idA) := by
  rcases h with ⟨rfl, rfl⟩ | ⟨id, rfl, ho, hk⟩
  · exact ⟨none, rfl, fun _ _ _ h => h⟩
  · refine ⟨some id, ?_, fun K' hK σ2 h => h.delK (hK.none hk)⟩
    simp only [dstRows, hs _ _ ho]
    rw [if_pos ⟨trivial, trivial, trivial, Nat.le_refl _⟩, List.take_length]
theorem OutV.start {K σ : Store} {e sz : Nat} : OutV K σ e sz .nils [] := .inl ⟨rfl, rfl⟩
theorem OutV.new {K σ : Store} {e sz id : Nat} {rows : List V} {n : Nat} (hn : n = rows.length) (h : σ id = some ⟨e, sz, rows⟩) (hk : K id = none) : OutV K σ e sz (.own id 0 n) rows := by
  subst hn; exact .inr ⟨id, rfl, h, hk⟩
theorem OutV.len {K σ : Store} {e sz : Nat} {v : V} {rows : List V} (h : OutV K σ e sz v rows) : lenV false v = some (.int .i64 rows.length) := by
  rcases h with ⟨rfl, rfl⟩ | ⟨id, rfl, ho, hk⟩ <;> rfl
theorem OutV.mono {K σ σ' : Store} {e sz : Nat} {v : V} {rows : List V} (h : OutV K σ e sz v rows) (hs : SubStore σ σ') : OutV K σ' e sz v rows := by
  rcases h with h | ⟨id, h1, h2, h3⟩
  · exact .inl h
  · exact .inr ⟨id, h1, hs _ _ h2, h3⟩
/-- what is kept, and a row that is new -/
theorem srcOne {σ : Store} {id e sz : Nat} {r : V} (h : σ id = some ⟨e, sz, [r]⟩) : srcRows σ sz (.own id 0 1) = some [r] := by
  simp [srcRows, h]
/-- a pointer to a row that is given away -/
theorem Wk.ptr {σ σ' : Store} (h : SubStore σ' σ) {id : Nat} {e sz : Nat} {r : V} (ho : σ id = some ⟨e, sz, [r]⟩) (hid : σ' id = none) : Wk σ σ' (.ptr id 0 0) (.rp r) := by
  intro μ w0 w ow0 x hs hr
  simp only [Rep] at hr ⊢
  have hob := hs.obj id _ ho
  split at hr
  · rename_i b sz' cap hb
    obtain ⟨rfl, hz⟩ := hr
    rw [hb] at hob
    have hlt : b < w.heap.size := Owned.lt hs ⟨id, _, _, _, ho, hb⟩
    obtain ⟨g1, g2, g3, g4, g5⟩ := hob.rows hz
    refine ⟨b, _, rfl, hlt, .inr ?_, ?_⟩
    · rintro ⟨id', ob', sz'', cap'', e1, e2⟩
      have := hs.inj id' id ob' _ _ _ _ _ _ (h _ _ e1) ho e2 hb
      rw [this, hid] at e1
      cases e1
    · simp only [RepRows] at g5
      have := RepRows.mono (MuLe.refl μ) (Keeps.sub w h) (Nat.le_refl _) [r] b 0 sz' rfl (by simp only [RepRows]; exact ⟨g5.1, g5.2.1, trivial⟩)
      simp only [RepRows] at this
      simpa using this.2.1
  · exact hr.elim
theorem Wk.fn {σ σ' : Store} {f : FuncId} {vs vs' : List V} (h : WkL σ σ' vs vs') : Wk σ σ' (.fn f vs) (.fn f vs') := by
  intro μ w0 w ow0 x hs hr
  simp only [Rep] at hr ⊢
  obtain ⟨vals, rfl, h1⟩ := hr
  exact ⟨vals, rfl, WkL.all hs h h1⟩
theorem V.cells_agg (vs : List V) : V.cells (.agg vs) = vs := rfl
theorem V.cells_int (k : IntKind) (i : Int) : V.cells (.int k i) = [.int k i] := rfl
theorem V.cells_nils : V.cells .nils = [.nils] := rfl
theorem V.cells_own (a b c : Nat) : V.cells (.own a b c) = [.own a b c] := rfl
theorem V.cells_sl (a : Nat) (b : List V) : V.cells (.sl a b) = [.sl a b] := rfl
theorem V.cells_str (a : List UInt8) : V.cells (.str a) = [.str a] := rfl
theorem V.cells_bool (a : Bool) : V.cells (.bool a) = [.bool a] := rfl
theorem V.cells_fn (a : FuncId) (b : List V) : V.cells (.fn a b) = [.fn a b] := rfl
theorem V.cells_ptr (a b c : Nat) : V.cells (.ptr a b c) = [.ptr a b c] := rfl
theorem V.cells_rp (a : V) : V.cells (.rp a) = [.rp a] := rfl
theorem V.stays_agg (vs : List V) : V.stays (.agg vs) = true := rfl
theorem V.stays_int (k : IntKind) (i : Int) : V.stays (.int k i) = true := rfl
theorem V.stays_nils : V.stays .nils = true := rfl
theorem V.stays_own (a b c : Nat) : V.stays (.own a b c) = true := rfl
theorem V.stays_sl (a : Nat) (b : List V) : V.stays (.sl a b) = true := rfl
theorem V.stays_str (a : List UInt8) : V.stays (.str a) = true := rfl
theorem V.stays_bool (a : Bool) : V.stays (.bool a) = true := rfl
theorem V.stays_fn (a : FuncId) (b : List V) : V.stays (.fn a b) = true := rfl
theorem V.stays_ptr (a b c : Nat) : V.stays (.ptr a b c) = true := rfl
theorem V.stays_rp (a : V) : V.stays (.rp a) = true := rfl
end Go.Vc
namespace Go.Vc
open Go.Proofs Go.Shelf Go.RowKit
variable {P : Program} {ρ : Ren}
theorem upd_self' {σ : Store} {id : Nat} {o : Ob} (h : σ id = some o) : upd σ id o = σ := by
  funext i
  simp only [upd]
  split
  · rename_i e; rw [e, h]
  · rfl
theorem freeze_others (w : World) (g n : Nat) : (w.freeze ⟨g, 0, none⟩ n).os = w.os ∧ (w.freeze ⟨g, 0, none⟩ n).tape = w.tape ∧ (w.freeze ⟨g, 0, none⟩ n).output = w.output ∧ (w.freeze ⟨g, 0, none⟩ n).heap.size = w.heap.size ∧ ∀ k, k ≠ g → (w.freeze ⟨g, 0, none⟩ n).heap[k]? = w.heap[k]? := by
  unfold World.freeze
  split
  · exact ⟨rfl, rfl, rfl, rfl, fun _ _ => rfl⟩
  · refine ⟨rfl, rfl, rfl, by simp, fun k hk => ?_⟩
    simp only [Array.getElem?_modify]
    rw [if_neg (by omega)]
set_option maxHeartbeats 2000000 in
set_option maxRecDepth 100000 in
theorem bstring_run (L : Lays.n169 P ρ) (X : Builder.Extra P ρ) (b g cap : Nat) (l : List UInt8) (w : World) (cur : Array Value) (h0 : l ≠ []) (hbk : w.cell? ⟨b, 1, none⟩ = some (.slice (some ⟨g, 0, none⟩) l.length cap))
    (hg : w.heap[g]? = some (.cells cur (ρ.t 5) (0, 0))) (hnc : l.length ≤ cap) (hcm : cap ≤ maxLen) (hcs : l.length ≤ cur.size) (hcells : ∀ (j : Nat) (x : UInt8), l[j]? = some x → w.cell? ⟨g, j, none⟩ = some (.int .u8 x.toNat)) :
    Calls P (ρ.f 169) #[.pointer (some ⟨b, 0, none⟩)] w fun e w' => e = .returned (.string ⟨l.toArray⟩) ∧ w'.os = w.os ∧ w'.tape = w.tape ∧ w'.output = w.output ∧ w'.heap.size = w.heap.size ∧ ∀ k, k ≠ g → w'.heap[k]? = w.heap[k]? := by
  have hl0 : l.length ≠ 0 := by simpa using h0
  have c1 : w.drew.cell? ⟨b, 1, none⟩ = some (.slice (some ⟨g, 0, none⟩) l.length cap) := hbk
  have hSD : (Builtin.unsafeSliceData_ #[(ρ.t 37)] (ρ.t 127) #[.slice (some ⟨g, 0, none⟩) l.length cap]).run P w.drew = .ok (.pointer (some ⟨g, 0, none⟩)) w.drew :=
    Lib.run_unsafeSliceData_row _ _ _ _ _ _ (by omega)
  have hUS : (Builtin.unsafeString_ #[(ρ.t 127), (ρ.t 3)] (ρ.t 9) #[.pointer (some ⟨g, 0, none⟩), .int .i64 l.length]).run P w.drew = .ok (.string ⟨l.toArray⟩) (w.drew.freeze ⟨g, 0, none⟩ l.length) := by
    refine Lib.run_unsafeString_row w.drew (ρ.t 127) (ρ.t 3) (ρ.t 9) (ρ.t 5) L.t127 X.cellsByte g cur.size (by have hg' : w.drew.heap[g]? = some (.cells cur (ρ.t 5) (0, 0)) := hg; simp [World.shape?, hg']) l h0 (by omega) (by unfold maxLen at hcm; omega) ?_
    intro j x hx
    have := hcells j x hx
    rw [addr_add, Nat.zero_add]
    exact this
  have hfin := freeze_others w.drew g l.length
  have mixed := L.mixed
  have t72 := L.t72; have a72 := L.a72; have z72 := L.z72; have v72 := L.v72; have u72 := run_underlying L.t72
  have t70 := L.t70; have a70 := L.a70; have z70 := L.z70; have v70 := L.v70; have u70 := run_underlying L.t70
  have t37 := L.t37; have a37 := L.a37; have z37 := L.z37; have v37 := L.v37; have u37 := run_underlying L.t37
  have t127 := L.t127; have a127 := L.a127; have z127 := L.z127; have v127 := L.v127; have u127 := run_underlying L.t127
  have t3 := L.t3; have a3 := L.a3; have z3 := L.z3; have v3 := L.v3; have u3 := run_underlying L.t3
  have t9 := L.t9; have a9 := L.a9; have z9 := L.z9; have v9 := L.v9; have u9 := run_underlying L.t9
  have t5 := X.t5; have a5 := X.a5; have z5 := X.z5; have v5 := X.v5; have u5 := run_underlying X.t5
  go_enter L.f169, Body.n169_ntmps ρ
  go_wp2
  go_region_o
  all_goals (go_wp2; go_ret; exact ⟨rfl, hfin⟩)
set_option maxHeartbeats 2000000 in
set_option maxRecDepth 100000 in
theorem bstring_nil (L : Lays.n169 P ρ) (X : Builder.Extra P ρ) (b : Nat) (w : World) (hbk : w.cell? ⟨b, 1, none⟩ = some (.slice none 0 0)) :
    Calls P (ρ.f 169) #[.pointer (some ⟨b, 0, none⟩)] w fun e w' => e = .returned (.string ⟨#[]⟩) ∧ w'.os = w.os ∧ w'.tape = w.tape ∧ w'.output = w.output ∧ w'.heap = w.heap := by
  have hUS := Any.unsafeString_none L X
  have c1 : w.drew.cell? ⟨b, 1, none⟩ = some (.slice none 0 0) := hbk
  have hSD : (Builtin.unsafeSliceData_ #[(ρ.t 37)] (ρ.t 127) #[.slice none 0 0]).run P w.drew = .ok (.pointer none) w.drew := rfl
  have hfin : w.drew.os = w.os ∧ w.drew.tape = w.tape ∧ w.drew.output = w.output ∧ w.drew.heap = w.heap := ⟨rfl, rfl, rfl, rfl⟩
  have mixed := L.mixed
  have t72 := L.t72; have a72 := L.a72; have z72 := L.z72; have v72 := L.v72; have u72 := run_underlying L.t72
  have t70 := L.t70; have a70 := L.a70; have z70 := L.z70; have v70 := L.v70; have u70 := run_underlying L.t70
  have t37 := L.t37; have a37 := L.a37; have z37 := L.z37; have v37 := L.v37; have u37 := run_underlying L.t37
  have t127 := L.t127; have a127 := L.a127; have z127 := L.z127; have v127 := L.v127; have u127 := run_underlying L.t127
  have t3 := L.t3; have a3 := L.a3; have z3 := L.z3; have v3 := L.v3; have u3 := run_underlying L.t3
  have t9 := L.t9; have a9 := L.a9; have z9 := L.z9; have v9 := L.v9; have u9 := run_underlying L.t9
  have t5 := X.t5; have a5 := X.a5; have z5 := X.z5; have v5 := X.v5; have u5 := run_underlying X.t5
  go_enter L.f169, Body.n169_ntmps ρ
  go_wp2
  go_region_o
  all_goals (go_wp2; go_ret; exact ⟨rfl, hfin⟩)
/-- what copyCheck does, in the model's own words -/
structure CopyCheck (P : Program) (f : FuncId) (B : TypeId) : Prop where
  callable : callable P f = true
  fresh : ∀ (b : Nat) (T : TypeId) (w : World) (n : Nat), 0 < n → w.cell? ⟨b, 0, none⟩ = some (.pointer none) → w.shape? b = some (T, n) → liesAt P P.depth T (n / P.cellsOf T) 0 B 1 = true → w.frozen? ⟨b, 0, none⟩ = false →
    Calls P f #[.pointer (some ⟨b, 0, none⟩)] w fun e w' => e = .returned (.tuple #[]) ∧ w' = w.setCell ⟨b, 0, none⟩ (.pointer (some ⟨b, 0, none⟩))
  used : ∀ (b : Nat) (w : World), w.cell? ⟨b, 0, none⟩ = some (.pointer (some ⟨b, 0, none⟩)) → Calls P f #[.pointer (some ⟨b, 0, none⟩)] w fun e w' => e = .returned (.tuple #[]) ∧ w' = w
/-- what a builder's row holds -/
def bRow (T : TypeId) (a buf : V) : Ob := ⟨T, 2, [.agg [a, buf]]⟩
theorem lies_any {T u : TypeId} (h : rowAt P (sameLayout P P.depth · u) P.depth T 1 0 1 = true) {c : Nat} (hc : 1 ≤ c) : liesAt P P.depth T c 0 u 1 = true := by
  have hd : P.depth = (2 * (P.types.size + Made.depth) + 1) + 1 := rfl
  have h2 : rowAt P (sameLayout P P.depth · u) P.depth T c 0 1 = true := by
    rw [hd] at h ⊢
    unfold rowAt at h ⊢
    simp only [Nat.zero_div, Nat.zero_mod] at h ⊢
    split at h
    · exact absurd h (by simp)
    · rename_i hs
      rw [if_neg hs]
      simp only [Bool.or_eq_true, Bool.and_eq_true, decide_eq_true_eq] at h ⊢
      rcases h with ⟨h1, h2⟩ | ⟨h1, h2⟩
      · exact .inl ⟨⟨h1.1, by omega⟩, h2⟩
      · exact .inr ⟨by omega, h2⟩
  show liesAt P ((2 * (P.types.size + Made.depth) + 1) + 1) T c 0 u 1 = true
  unfold liesAt
  rw [Bool.or_eq_true]
  exact .inl h2
theorem bcheck_c {f : FuncId} {B : TypeId} (C : CopyCheck P f B) {σ : Store} {id : Nat} {T : TypeId} {a buf : V} (hT : P.cellsOf T = 2) (hlies : rowAt P (sameLayout P P.depth · B) P.depth T 1 0 1 = true) (hid : σ id = some (bRow T a buf))
    (ha : a = .nilp ∨ a = .ptr id 0 0) : Contract P f [.ptr id 0 0] σ fun r σ' => r = .tup [] ∧ σ' = upd σ id (bRow T (.ptr id 0 0) buf) := by
  refine ⟨C.callable, fun μ w vals hs hr => ?_⟩
  simp only [RepAll] at hr
  obtain ⟨x, _, rfl, hx, rfl⟩ := hr
  have hob := hs.obj id _ hid
  simp only [Rep] at hx
  split at hx
  · rename_i b sz cap hμ
    obtain ⟨rfl, hz⟩ := hx
    rw [hμ] at hob
    obtain ⟨cur, e1, e2, e3, e4, e5, e6, e7⟩ := hob.plain hz
    obtain rfl : sz = 2 := by simpa [bRow] using e2.symm
    obtain ⟨g1, xs, g2, g3, g4, g5⟩ := e7.cur e1
    simp only [bRow, List.length_cons, List.length_nil] at e1 g4 e5
    have hcell : ∃ y, w.cell? ⟨b, 0, none⟩ = some y ∧ Rep μ (Owned μ σ) w a y := by
      have := e7
      simp only [bRow, RepRows, RepRow, RepCells] at this
      obtain ⟨_, ⟨⟨y, h1, h2, _⟩, _⟩, _⟩ := this
      exact ⟨y, h1, h2⟩
    obtain ⟨y, hy, hry⟩ := hcell
    rcases ha with rfl | rfl
    · simp only [Rep] at hry
      subst hry
      have hsh : w.shape? b = some (T, cap * 2) := by simp [World.shape?, e1, e4]
      have hfz : w.frozen? ⟨b, 0, none⟩ = false := Lib.frozen_of_heap e1 0
      refine (C.fresh b T w (cap * 2) (by omega) (by simpa using hy) hsh (lies_any hlies (by rw [hT]; omega)) hfz).mono ?_
      rintro e w' ⟨rfl, rfl⟩
      have hset : w.setCell ⟨b, 0, none⟩ (.pointer (some ⟨b, 0, none⟩)) = w.setRow b (cur.setIfInBounds 0 (.pointer (some ⟨b, 0, none⟩))) := setCell_eq_setRow w b 0 cur T (0, 0) _ e1
      rw [hset]
      have hgrow : w.grownBy (w.setRow b (cur.setIfInBounds 0 (.pointer (some ⟨b, 0, none⟩)))) (some b) :=
        ⟨rfl, rfl, rfl, by simp, fun kk _ hkk => setRow_other w b kk _ (fun e => hkk (by rw [e]))⟩
      have hflat : flat (bRow T .nilp buf).rows = [.nilp, buf] := rfl
      rw [hflat] at g2
      simp only [RepAll] at g2
      obtain ⟨x0, _, rfl, _, x1, _, rfl, q1, rfl⟩ := g2
      have hch := hs.change hid hμ hz hgrow (cur.setIfInBounds 0 (.pointer (some ⟨b, 0, none⟩))) [.agg [.ptr id 0 0, buf]] [.pointer (some ⟨b, 0, none⟩), x1]
        (setRow_heap w b cur _ T _ e1) (by simpa using e4) (by simpa using e5) (by simp [V.cells])
        (by
          show RepAll μ (Owned μ σ) w [.ptr id 0 0, buf] _
          simp only [RepAll]
          refine ⟨_, _, rfl, ?_, _, _, rfl, q1, rfl⟩
          simp only [Rep, hμ]
          simp)
        (by
          intro u hu
          simp only [List.mem_cons, List.not_mem_nil, or_false] at hu
          rcases hu with hu | hu
          · rw [hu]; rfl
          · rw [hu]; exact g3 x1 (by simp))
        (by
          intro j u hu
          have hc0 : 0 < cur.size := by omega
          match j, hu with
          | 0, hu => simp at hu; subst hu; simp [hc0]
          | 1, hu =>
            have := g5 1 x1 (by simp)
            simp at hu
            rw [← hu]
            simpa using this
          | j + 2, hu => simp at hu)
      exact ⟨.tup [], _, μ, _, rfl, ⟨rfl, rfl⟩, MuLe.refl μ, hch.1, by simp only [Rep]; exact ⟨[], rfl, by simp [RepAll]⟩⟩
    · simp only [Rep, hμ] at hry
      obtain ⟨rfl, _⟩ := hry
      refine (C.used b w (by simpa using hy)).mono ?_
      rintro e w' ⟨rfl, rfl⟩
      refine ⟨.tup [], σ, μ, _, rfl, ⟨rfl, (upd_self' hid).symm⟩, MuLe.refl μ, hs, by simp only [Rep]; exact ⟨[], rfl, by simp [RepAll]⟩⟩
  · exact hx.elim
/-- a builder, in the store: beside the rows of K it has its own row, and that of its bytes -/
structure IsB (T u8 : TypeId) (K σ : Store) (id : Nat) (l : List UInt8) : Prop where
  sub : SubStore K σ
  new : K id = none
  row : ∃ a buf, σ id = some (bRow T a buf) ∧ (a = .nilp ∨ a = .ptr id 0 0) ∧ OutV (upd K id (bRow T a buf)) σ u8 1 buf (l.map fun b => .int .u8 b.toNat)
theorem IsB.start {T u8 : TypeId} {K σ : Store} {id : Nat} (hs : SubStore K σ) (hn : K id = none) (hid : σ id = some (bRow T .nilp .nils)) : IsB T u8 K σ id [] :=
  ⟨hs, hn, _, _, hid, .inl rfl, .inl ⟨rfl, rfl⟩⟩
theorem IsB.mono {T u8 : TypeId} {K σ σ' : Store} {id : Nat} {l : List UInt8} (h : IsB T u8 K σ id l) (hs : SubStore σ σ') : IsB T u8 K σ' id l := by
  obtain ⟨h1, h2, a, buf, h3, h4, h5⟩ := h
  refine ⟨h1.trans hs, h2, a, buf, hs _ _ h3, h4, ?_⟩
  rcases h5 with ⟨h5, h6⟩ | ⟨i, h5, h6, h7⟩
  · exact .inl ⟨h5, h6⟩
  · exact .inr ⟨i, h5, hs _ _ h6, h7⟩
theorem Sat.gone {w w' : World} {μ : Mu} {σ K : Store} (h : Sat w (Owned μ σ) μ σ w) (hK : SubStore K σ) (g : Option Nat) (hg : ∀ b, g = some b → Owned μ σ b ∧ ∀ i o sz cap, K i = some o → μ i = .lies b sz cap → False)
    (h1 : w'.os = w.os) (h2 : w'.tape = w.tape) (h3 : w'.output = w.output) (h4 : w'.heap.size = w.heap.size) (h5 : ∀ k, some k ≠ g → w'.heap[k]? = w.heap[k]?) : Sat w (Owned μ σ) μ K w' := by
  have hk : Keeps (Owned μ σ) (Owned μ K) w w' := fun b _ hn => ⟨fun ho => hn (ho.sub hK), h5 b fun e => hn (hg b e.symm).1⟩
  refine ⟨by omega, h1, h2, h3, fun b hb hn => (hk b hb hn).2, h.fin, fun i i' o o' b sz cap sz' cap' a1 a2 a3 a4 => h.inj i i' o o' b sz cap sz' cap' (hK _ _ a1) (hK _ _ a2) a3 a4, fun i o ho => ?_, fun b hb _ => hb.sub hK, h.glob⟩
  refine (h.obj i o (hK _ _ ho)).mono (MuLe.refl μ) hk (by omega) fun b sz cap hp => h5 b fun e => ?_
  exact (hg b e.symm).2 i o sz cap ho hp
theorem bytes_cells {μ : Mu} {ow : Nat → Prop} {w : World} : ∀ (l : List UInt8) (b off : Nat), RepRows μ ow w (l.map fun b => V.int .u8 b.toNat) b off 1 → ∀ (j : Nat) (x : UInt8), l[j]? = some x → w.cell? ⟨b, off + j, none⟩ = some (.int .u8 x.toNat)
  | [], _, _, _, j, x, h => by simp at h
  | y :: l, b, off, h, j, x, hx => by
    simp only [List.map_cons, RepRows, RepRow] at h
    obtain ⟨_, ⟨z, h1, h2, _⟩, h3⟩ := h
    simp only [Rep] at h2
    cases j with
    | zero => simp only [List.getElem?_cons_zero, Option.some.injEq] at hx; subst hx; rw [Nat.add_zero, h1, h2]
    | succ j =>
      have := bytes_cells l b (off + 1) h3 j x (by simpa using hx)
      rw [show off + (j + 1) = off + 1 + j by omega]; exact this
/-- String: the builder is gone behind it -/
theorem bstring_c (L : Lays.n169 P ρ) (X : Builder.Extra P ρ) (hcl : callable P (ρ.f 169) = true) {T : TypeId} {K σ : Store} {id : Nat} {l : List UInt8} (h : IsB T (ρ.t 5) K σ id l) (h0 : l = [] → ∃ a, σ id = some (bRow T a .nils)) :
    Contract P (ρ.f 169) [.ptr id 0 0] σ fun r σ' => r = .str l ∧ σ' = K := by
  obtain ⟨hK, hKid, a, buf, hid, ha, hout⟩ := h
  refine ⟨hcl, fun μ w vals hs hr => ?_⟩
  simp only [RepAll] at hr
  obtain ⟨x, _, rfl, hx, rfl⟩ := hr
  have hob := hs.obj id _ hid
  simp only [Rep] at hx
  split at hx
  · rename_i b sz cap hμ
    obtain ⟨rfl, hz⟩ := hx
    rw [hμ] at hob
    obtain ⟨cur, e1, e2, e3, e4, e5, e6, e7⟩ := hob.plain hz
    obtain rfl : sz = 2 := by simpa [bRow] using e2.symm
    obtain ⟨g1, xs, g2, g3, g4, g5⟩ := e7.cur e1
    have hc1 : ∃ x1, w.cell? ⟨b, 1, none⟩ = some x1 ∧ Rep μ (Owned μ σ) w buf x1 := by
      have := e7
      simp only [bRow, RepRows, RepRow, RepCells] at this
      obtain ⟨_, ⟨_, ⟨y, h1, h2, _⟩, _⟩, _⟩ := this
      exact ⟨y, h1, h2⟩
    obtain ⟨x1, hc1, hr1⟩ := hc1
    have hfin : ∀ (w' : World) (g : Option Nat), (∀ b, g = some b → Owned μ σ b ∧ ∀ i o sz cap, K i = some o → μ i = .lies b sz cap → False) → w'.os = w.os → w'.tape = w.tape → w'.output = w.output → w'.heap.size = w.heap.size → (∀ k, some k ≠ g → w'.heap[k]? = w.heap[k]?) →
        ∃ r σ' μ' val, Ending.returned (.string ⟨l.toArray⟩) = .returned val ∧ (r = .str l ∧ σ' = K) ∧ MuLe μ μ' ∧ Sat w (Owned μ σ) μ' σ' w' ∧ Rep μ' (Owned μ' σ') w' r val := by
      intro w' g hg h1 h2 h3 h4 h5
      exact ⟨.str l, K, μ, _, rfl, ⟨rfl, rfl⟩, MuLe.refl μ, hs.gone hK g hg h1 h2 h3 h4 h5, by simp [Rep]⟩
    have hnil : ∀ x1', w.cell? ⟨b, 1, none⟩ = some x1' → x1' = .slice none 0 0 → l = [] → Calls P (ρ.f 169) #[.pointer (some ⟨b, 0, none⟩)] w fun e w' => ∃ r σ' μ' val, e = .returned val ∧ (r = .str l ∧ σ' = K) ∧ MuLe μ μ' ∧ Sat w (Owned μ σ) μ' σ' w' ∧ Rep μ' (Owned μ' σ') w' r val := by
      rintro _ hc rfl rfl
      refine (bstring_nil L X b w hc).mono ?_
      rintro e w' ⟨rfl, h1, h2, h3, h4⟩
      exact hfin w' none (by simp) h1 h2 h3 (by rw [h4]) (fun k _ => by rw [h4])
    rcases hout with ⟨rfl, hl⟩ | ⟨i, rfl, hi, hiK⟩
    · simp only [List.map_eq_nil_iff] at hl
      simp only [Rep] at hr1
      simpa using hnil x1 hc1 hr1 hl
    · have hii : i ≠ id := by rintro rfl; simp [Vc.upd] at hiK
      have hiK' : K i = none := by simpa [Vc.upd, hii] using hiK
      simp only [Rep] at hr1
      have hobi := hs.obj i _ hi
      split at hr1
      · exact hr1.elim
      · by_cases hl : l = []
        · subst hl
          obtain ⟨a', ha'⟩ := h0 rfl
          rw [hid] at ha'
          simp [bRow] at ha'
        · obtain ⟨_, _, h3⟩ := hr1
          simp at h3; exact absurd h3 hl
      · rename_i g szg capg hμi
        by_cases hl : l = []
        · subst hl
          obtain ⟨a', ha'⟩ := h0 rfl
          rw [hid] at ha'
          simp [bRow] at ha'
        · obtain ⟨o, c, rfl, hc2, hc3, hc4, hz4⟩ := hr1
          simp only [List.length_map] at hc2
          have ho : o = 0 := by
            rcases hc4 with hc4 | hc4
            · simpa using hc4
            · exact absurd rfl hc4.2
          subst ho
          rw [hμi] at hobi
          obtain ⟨curg, f1, f2, f3, f4, f5, f6, f7⟩ := hobi.plain hz4
          simp only at f1 f2 f7 f5
          subst f2
          simp only [List.length_map] at f5
          have hby := bytes_cells l g 0 f7
          refine (bstring_run L X b g c l w curg hl (by simpa using hc1) f1 hc2 (by omega) (by omega) (fun j x hx => by have := hby j x hx; rwa [Nat.zero_add] at this)).mono ?_
          rintro e w' ⟨rfl, h1, h2, h3, h4, h5⟩
          refine hfin w' (some g) ?_ h1 h2 h3 h4 (fun k hk => h5 k fun e => hk (by rw [e]))
          rintro b' hb'
          cases hb'
          refine ⟨⟨i, _, 1, capg, hi, hμi⟩, fun i' o' sz' cap' q1 q2 => ?_⟩
          have := hs.inj i' i o' _ g sz' cap' 1 capg (hK _ _ q1) hi q2 hμi
          subst this
          rw [q1] at hiK'; cases hiK'
  · exact hx.elim
end Go.Vc
namespace Go.Vc
open Go.Proofs
def c3 : VFn := ⟨236, (.seq (.reg .false [⟨(.some 3), (.box 24 4 (.t 1)), .none⟩, ⟨(.some 4), (.mov (.c (.bool .false))), .none⟩]) (.seq (.seq (.reg .false [⟨(.some 12), (.mov (.t 0)), .none⟩, ⟨(.some 13), (.len .false (.t 12)), .none⟩, ⟨(.some 14), (.bin .gtr (.t 13) (.c (.int .i64 100))), .none⟩]) (.cond (.t 14) (.seq (.reg .false [⟨(.some 15), (.call (.c (.fn 6 [])) []), .none⟩, ⟨(.some 4), (.mov (.t 15)), .none⟩]) .ret) .skip)) (.seq (.reg .false [⟨(.some 16), (.load .true 4 (.t 3)), .none⟩, ⟨(.some 17), (.bslice 24 4 [(.t 16)]), .none⟩, ⟨(.some 18), (.mov (.t 0)), .none⟩, ⟨(.some 19), (.append 24 4 32 (.t 17) (.t 18)), .none⟩, ⟨(.some 5), (.mov (.t 19)), .none⟩]) (.seq (.seq (.reg .false [⟨(.some 6), (.mov (.c (.int .i64 0))), .none⟩]) (.block 0 (.loop (.seq (.seq (.reg .false [⟨(.some 20), (.mov (.t 6)), .none⟩, ⟨(.some 21), (.mov (.t 5)), .none⟩, ⟨(.some 22), (.len .false (.t 21)), .none⟩, ⟨(.some 23), (.bin .lss (.t 20) (.t 22)), .none⟩]) (.cond (.t 23) .skip (.exit 0))) (.seq (.block 1 (.seq (.reg .false [⟨(.some 26), (.mov (.t 5)), .none⟩, ⟨(.some 27), (.mov (.t 6)), .none⟩, ⟨(.some 28), (.idxA 4 (.t 26) (.t 27)), .none⟩, ⟨(.some 29), (.fldA .false 2 1 (.t 28)), .none⟩, ⟨(.some 30), (.load .false 1 (.t 29)), .none⟩, ⟨(.some 31), (.bin .lss (.t 30) (.c (.int .i64 0))), .none⟩, ⟨(.some 32), (.mov (.t 31)), .none⟩, ⟨(.some 33), (.mov (.t 5)), (.some ((.t 32), .false))⟩, ⟨(.some 34), (.mov (.t 6)), (.some ((.t 32), .false))⟩, ⟨(.some 35), (.idxA 4 (.t 33) (.t 34)), (.some ((.t 32), .false))⟩, ⟨(.some 36), (.fldA .false 2 1 (.t 35)), (.some ((.t 32), .false))⟩, ⟨(.some 37), (.load .false 1 (.t 36)), (.some ((.t 32), .false))⟩, ⟨(.some 38), (.bin .gtr (.t 37) (.c (.int .i64 1073741824))), (.some ((.t 32), .false))⟩, ⟨(.some 39), (.pick (.t 32) (.c (.bool .true)) (.t 38)), .none⟩, ⟨(.some 40), (.mov (.t 39)), .none⟩, ⟨(.some 41), (.mov (.t 5)), (.some ((.t 40), .false))⟩, ⟨(.some 42), (.mov (.t 6)), (.some ((.t 40), .false))⟩, ⟨(.some 43), (.idxA 4 (.t 41) (.t 42)), (.some ((.t 40), .false))⟩, ⟨(.some 44), (.fldA .false 3 1 (.t 43)), (.some ((.t 40), .false))⟩, ⟨(.some 45), (.load .false 1 (.t 44)), (.some ((.t 40), .false))⟩, ⟨(.some 46), (.bin .lss (.t 45) (.c (.int .i64 0))), (.some ((.t 40), .false))⟩, ⟨(.some 47), (.pick (.t 40) (.c (.bool .true)) (.t 46)), .none⟩, ⟨(.some 48), (.mov (.t 47)), .none⟩, ⟨(.some 49), (.mov (.t 5)), (.some ((.t 48), .false))⟩, ⟨(.some 50), (.mov (.t 6)), (.some ((.t 48), .false))⟩, ⟨(.some 51), (.idxA 4 (.t 49) (.t 50)), (.some ((.t 48), .false))⟩, ⟨(.some 52), (.fldA .false 3 1 (.t 51)), (.some ((.t 48), .false))⟩, ⟨(.some 53), (.load .false 1 (.t 52)), (.some ((.t 48), .false))⟩, ⟨(.some 54), (.bin .gtr (.t 53) (.c (.int .i64 1073741824))), (.some ((.t 48), .false))⟩, ⟨(.some 55), (.pick (.t 48) (.c (.bool .true)) (.t 54)), .none⟩]) (.cond (.t 55) (.seq (.reg .false [⟨(.some 56), (.call (.c (.fn 6 [])) []), .none⟩, ⟨(.some 4), (.mov (.t 56)), .none⟩]) .ret) .skip))) (.reg .false [⟨(.some 24), (.mov (.t 6)), .none⟩, ⟨(.some 25), (.bin .add (.t 24) (.c (.int .i64 1))), .none⟩, ⟨(.some 6), (.mov (.t 25)), .none⟩])))))) (.seq (.reg .false [⟨(.some 7), (.mov (.c .nils)), .none⟩]) (.seq (.seq (.reg .false [⟨(.some 57), (.mov (.t 0)), .none⟩, ⟨(.some 58), (.len .false (.t 57)), .none⟩, ⟨(.some 59), (.bin .sub (.t 58) (.c (.int .i64 1))), .none⟩, ⟨(.some 8), (.mov (.t 59)), .none⟩]) (.block 2 (.loop (.seq (.seq (.reg .false [⟨(.some 60), (.mov (.t 8)), .none⟩, ⟨(.some 61), (.bin .geq (.t 60) (.c (.int .i64 0))), .none⟩]) (.cond (.t 61) .skip (.exit 2))) (.seq (.block 3 (.reg .false [⟨(.some 64), (.mov (.t 7)), .none⟩, ⟨(.some 65), (.mov (.t 0)), .none⟩, ⟨(.some 66), (.mov (.t 8)), .none⟩, ⟨(.some 67), (.idxA 4 (.t 65) (.t 66)), .none⟩, ⟨(.some 68), (.load .true 4 (.t 67)), .none⟩, ⟨(.some 69), (.bslice 24 4 [(.t 68)]), .none⟩, ⟨(.some 70), (.append 24 4 32 (.t 64) (.t 69)), .none⟩, ⟨(.some 7), (.mov (.t 70)), .none⟩])) (.reg .false [⟨(.some 62), (.mov (.t 8)), .none⟩, ⟨(.some 63), (.bin .sub (.t 62) (.c (.int .i64 1))), .none⟩, ⟨(.some 8), (.mov (.t 63)), .none⟩])))))) (.seq (.reg .false [⟨(.some 71), (.mov (.t 0)), .none⟩, ⟨(.some 72), (.call (.c (.fn 7 [])) [(.t 71)]), .none⟩, ⟨(.some 73), (.mov (.t 7)), .none⟩, ⟨(.some 74), (.call (.c (.fn 7 [])) [(.t 73)]), .none⟩, ⟨(.some 75), (.mov (.t 5)), .none⟩, ⟨(.some 76), (.call (.c (.fn 7 [])) [(.t 75)]), .none⟩, ⟨(.some 9), (.alloc 27 6 (.agg [(.int .i64 0), (.int .i64 0), (.int .i64 0), (.int .i64 0), (.int .i64 0), (.int .i64 0)])), .none⟩, ⟨(.some 10), (.alloc 27 6 (.agg [(.int .i64 0), (.int .i64 0), (.int .i64 0), (.int .i64 0), (.int .i64 0), (.int .i64 0)])), .none⟩, ⟨(.some 11), (.alloc 27 6 (.agg [(.int .i64 0), (.int .i64 0), (.int .i64 0), (.int .i64 0), (.int .i64 0), (.int .i64 0)])), .none⟩, ⟨.none, (.store 6 (.t 9) (.t 72)), .none⟩, ⟨.none, (.store 6 (.t 10) (.t 74)), .none⟩, ⟨.none, (.store 6 (.t 11) (.t 76)), .none⟩]) (.seq (.seq (.reg .false [⟨(.some 77), (.fldA .false 0 1 (.t 9)), .none⟩, ⟨(.some 78), (.load .false 1 (.t 77)), .none⟩, ⟨(.some 79), (.fldA .false 0 1 (.t 10)), .none⟩, ⟨(.some 80), (.load .false 1 (.t 79)), .none⟩, ⟨(.some 81), (.bin .neq (.t 78) (.t 80)), .none⟩, ⟨(.some 82), (.mov (.t 81)), .none⟩, ⟨(.some 83), (.fldA .false 1 1 (.t 9)), (.some ((.t 82), .false))⟩, ⟨(.some 84), (.load .false 1 (.t 83)), (.some ((.t 82), .false))⟩, ⟨(.some 85), (.fldA .false 1 1 (.t 10)), (.some ((.t 82), .false))⟩, ⟨(.some 86), (.load .false 1 (.t 85)), (.some ((.t 82), .false))⟩, ⟨(.some 87), (.bin .neq (.t 84) (.t 86)), (.some ((.t 82), .false))⟩, ⟨(.some 88), (.pick (.t 82) (.c (.bool .true)) (.t 87)), .none⟩, ⟨(.some 89), (.mov (.t 88)), .none⟩, ⟨(.some 90), (.fldA .false 2 1 (.t 9)), (.some ((.t 89), .false))⟩, ⟨(.some 91), (.load .false 1 (.t 90)), (.some ((.t 89), .false))⟩, ⟨(.some 92), (.fldA .false 2 1 (.t 10)), (.some ((.t 89), .false))⟩, ⟨(.some 93), (.load .false 1 (.t 92)), (.some ((.t 89), .false))⟩, ⟨(.some 94), (.bin .neq (.t 91) (.t 93)), (.some ((.t 89), .false))⟩, ⟨(.some 95), (.pick (.t 89) (.c (.bool .true)) (.t 94)), .none⟩, ⟨(.some 96), (.mov (.t 95)), .none⟩, ⟨(.some 97), (.fldA .false 3 1 (.t 9)), (.some ((.t 96), .false))⟩, ⟨(.some 98), (.load .false 1 (.t 97)), (.some ((.t 96), .false))⟩, ⟨(.some 99), (.fldA .false 3 1 (.t 10)), (.some ((.t 96), .false))⟩, ⟨(.some 100), (.load .false 1 (.t 99)), (.some ((.t 96), .false))⟩, ⟨(.some 101), (.bin .neq (.t 98) (.t 100)), (.some ((.t 96), .false))⟩, ⟨(.some 102), (.pick (.t 96) (.c (.bool .true)) (.t 101)), .none⟩, ⟨(.some 103), (.mov (.t 102)), .none⟩, ⟨(.some 104), (.fldA .false 4 1 (.t 9)), (.some ((.t 103), .false))⟩, ⟨(.some 105), (.load .false 1 (.t 104)), (.some ((.t 103), .false))⟩, ⟨(.some 106), (.bin .lss (.t 105) (.c (.int .i64 0))), (.some ((.t 103), .false))⟩, ⟨(.some 107), (.fldA .false 4 1 (.t 10)), (.some ((.t 103), .false))⟩, ⟨(.some 108), (.load .false 1 (.t 107)), (.some ((.t 103), .false))⟩, ⟨(.some 109), (.bin .lss (.t 108) (.c (.int .i64 0))), (.some ((.t 103), .false))⟩, ⟨(.some 110), (.binB .true (.t 106) (.t 109)), (.some ((.t 103), .false))⟩, ⟨(.some 111), (.pick (.t 103) (.c (.bool .true)) (.t 110)), .none⟩, ⟨(.some 112), (.mov (.t 111)), .none⟩, ⟨(.some 113), (.fldA .false 5 1 (.t 9)), (.some ((.t 112), .false))⟩, ⟨(.some 114), (.load .false 1 (.t 113)), (.some ((.t 112), .false))⟩, ⟨(.some 115), (.bin .lss (.t 114) (.c (.int .i64 0))), (.some ((.t 112), .false))⟩, ⟨(.some 116), (.fldA .false 4 1 (.t 9)), (.some ((.t 112), .false))⟩, ⟨(.some 117), (.load .false 1 (.t 116)), (.some ((.t 112), .false))⟩, ⟨(.some 118), (.bin .lss (.t 117) (.c (.int .i64 0))), (.some ((.t 112), .false))⟩, ⟨(.some 119), (.binB .true (.t 115) (.t 118)), (.some ((.t 112), .false))⟩, ⟨(.some 120), (.pick (.t 112) (.c (.bool .true)) (.t 119)), .none⟩]) (.cond (.t 120) (.seq (.reg .false [⟨(.some 4), (.mov (.c (.bool .false))), .none⟩]) .ret) .skip)) (.seq (.seq (.reg .false [⟨(.some 121), (.fldA .false 0 1 (.t 11)), .none⟩, ⟨(.some 122), (.load .false 1 (.t 121)), .none⟩, ⟨(.some 123), (.fldA .false 0 1 (.t 9)), .none⟩, ⟨(.some 124), (.load .false 1 (.t 123)), .none⟩, ⟨(.some 125), (.bin .add (.t 124) (.c (.int .i64 1))), .none⟩, ⟨(.some 126), (.bin .neq (.t 122) (.t 125)), .none⟩, ⟨(.some 127), (.mov (.t 126)), .none⟩, ⟨(.some 128), (.fldA .false 2 1 (.t 11)), (.some ((.t 127), .false))⟩, ⟨(.some 129), (.load .false 1 (.t 128)), (.some ((.t 127), .false))⟩, ⟨(.some 130), (.fldA .false 2 1 (.t 9)), (.some ((.t 127), .false))⟩, ⟨(.some 131), (.load .false 1 (.t 130)), (.some ((.t 127), .false))⟩, ⟨(.some 132), (.fldA .false 2 1 (.t 3)), (.some ((.t 127), .false))⟩, ⟨(.some 133), (.load .false 1 (.t 132)), (.some ((.t 127), .false))⟩, ⟨(.some 134), (.bin .add (.t 131) (.t 133)), (.some ((.t 127), .false))⟩, ⟨(.some 135), (.bin .neq (.t 129) (.t 134)), (.some ((.t 127), .false))⟩, ⟨(.some 136), (.pick (.t 127) (.c (.bool .true)) (.t 135)), .none⟩, ⟨(.some 137), (.mov (.t 136)), .none⟩, ⟨(.some 138), (.fldA .false 3 1 (.t 11)), (.some ((.t 137), .false))⟩, ⟨(.some 139), (.load .false 1 (.t 138)), (.some ((.t 137), .false))⟩, ⟨(.some 140), (.fldA .false 3 1 (.t 9)), (.some ((.t 137), .false))⟩, ⟨(.some 141), (.load .false 1 (.t 140)), (.some ((.t 137), .false))⟩, ⟨(.some 142), (.fldA .false 3 1 (.t 3)), (.some ((.t 137), .false))⟩, ⟨(.some 143), (.load .false 1 (.t 142)), (.some ((.t 137), .false))⟩, ⟨(.some 144), (.bin .add (.t 141) (.t 143)), (.some ((.t 137), .false))⟩, ⟨(.some 145), (.bin .neq (.t 139) (.t 144)), (.some ((.t 137), .false))⟩, ⟨(.some 146), (.pick (.t 137) (.c (.bool .true)) (.t 145)), .none⟩]) (.cond (.t 146) (.seq (.reg .false [⟨(.some 4), (.mov (.c (.bool .false))), .none⟩]) .ret) .skip)) (.seq (.seq (.reg .false [⟨(.some 147), (.fldA .false 4 1 (.t 9)), .none⟩, ⟨(.some 148), (.load .false 1 (.t 147)), .none⟩, ⟨(.some 149), (.bin .lss (.t 148) (.c (.int .i64 0))), .none⟩]) (.cond (.t 149) (.seq (.reg .false [⟨(.some 150), (.fldA .false 1 1 (.t 9)), .none⟩, ⟨(.some 151), (.load .false 1 (.t 150)), .none⟩, ⟨(.some 152), (.mov (.t 0)), .none⟩, ⟨(.some 153), (.len .false (.t 152)), .none⟩, ⟨(.some 154), (.bin .eql (.t 151) (.t 153)), .none⟩, ⟨(.some 155), (.mov (.t 154)), .none⟩, ⟨(.some 156), (.call (.c (.fn 6 [])) []), (.some ((.t 155), .true))⟩, ⟨(.some 157), (.pick (.t 155) (.t 156) (.c (.bool .false))), .none⟩, ⟨(.some 4), (.mov (.t 157)), .none⟩]) .ret) .skip)) (.seq (.seq (.reg .false [⟨(.some 158), (.fldA .false 4 1 (.t 9)), .none⟩, ⟨(.some 159), (.load .false 1 (.t 158)), .none⟩, ⟨(.some 160), (.mov (.t 0)), .none⟩, ⟨(.some 161), (.len .false (.t 160)), .none⟩, ⟨(.some 162), (.bin .geq (.t 159) (.t 161)), .none⟩, ⟨(.some 163), (.mov (.t 162)), .none⟩, ⟨(.some 164), (.fldA .false 5 1 (.t 9)), (.some ((.t 163), .false))⟩, ⟨(.some 165), (.load .false 1 (.t 164)), (.some ((.t 163), .false))⟩, ⟨(.some 166), (.mov (.t 0)), (.some ((.t 163), .false))⟩, ⟨(.some 167), (.len .false (.t 166)), (.some ((.t 163), .false))⟩, ⟨(.some 168), (.bin .geq (.t 165) (.t 167)), (.some ((.t 163), .false))⟩, ⟨(.some 169), (.pick (.t 163) (.c (.bool .true)) (.t 168)), .none⟩, ⟨(.some 170), (.mov (.t 169)), .none⟩, ⟨(.some 171), (.fldA .false 4 1 (.t 10)), (.some ((.t 170), .false))⟩, ⟨(.some 172), (.load .false 1 (.t 171)), (.some ((.t 170), .false))⟩, ⟨(.some 173), (.mov (.t 0)), (.some ((.t 170), .false))⟩, ⟨(.some 174), (.len .false (.t 173)), (.some ((.t 170), .false))⟩, ⟨(.some 175), (.bin .geq (.t 172) (.t 174)), (.some ((.t 170), .false))⟩, ⟨(.some 176), (.pick (.t 170) (.c (.bool .true)) (.t 175)), .none⟩, ⟨(.some 177), (.mov (.t 176)), .none⟩, ⟨(.some 178), (.fldA .false 5 1 (.t 10)), (.some ((.t 177), .false))⟩, ⟨(.some 179), (.load .false 1 (.t 178)), (.some ((.t 177), .false))⟩, ⟨(.some 180), (.mov (.t 0)), (.some ((.t 177), .false))⟩, ⟨(.some 181), (.len .false (.t 180)), (.some ((.t 177), .false))⟩, ⟨(.some 182), (.bin .geq (.t 179) (.t 181)), (.some ((.t 177), .false))⟩, ⟨(.some 183), (.pick (.t 177) (.c (.bool .true)) (.t 182)), .none⟩, ⟨(.some 184), (.mov (.t 183)), .none⟩, ⟨(.some 185), (.fldA .false 4 1 (.t 10)), (.some ((.t 184), .false))⟩, ⟨(.some 186), (.load .false 1 (.t 185)), (.some ((.t 184), .false))⟩, ⟨(.some 187), (.bin .lss (.t 186) (.c (.int .i64 0))), (.some ((.t 184), .false))⟩, ⟨(.some 188), (.pick (.t 184) (.c (.bool .true)) (.t 187)), .none⟩, ⟨(.some 189), (.mov (.t 188)), .none⟩, ⟨(.some 190), (.fldA .false 5 1 (.t 10)), (.some ((.t 189), .false))⟩, ⟨(.some 191), (.load .false 1 (.t 190)), (.some ((.t 189), .false))⟩, ⟨(.some 192), (.bin .lss (.t 191) (.c (.int .i64 0))), (.some ((.t 189), .false))⟩, ⟨(.some 193), (.pick (.t 189) (.c (.bool .true)) (.t 192)), .none⟩]) (.cond (.t 193) (.seq (.reg .false [⟨(.some 4), (.mov (.c (.bool .false))), .none⟩]) .ret) .skip)) (.seq (.reg .true [⟨(.some 194), (.mov (.t 0)), .none⟩, ⟨(.some 195), (.fldA .false 4 1 (.t 9)), .none⟩, ⟨(.some 196), (.load .false 1 (.t 195)), .none⟩, ⟨(.some 197), (.idxA 4 (.t 194) (.t 196)), .none⟩, ⟨(.some 198), (.fldA .false 2 1 (.t 197)), .none⟩, ⟨(.some 199), (.load .false 1 (.t 198)), .none⟩, ⟨(.some 200), (.mov (.t 7)), .none⟩, ⟨(.some 201), (.fldA .false 4 1 (.t 10)), .none⟩, ⟨(.some 202), (.load .false 1 (.t 201)), .none⟩, ⟨(.some 203), (.idxA 4 (.t 200) (.t 202)), .none⟩, ⟨(.some 204), (.fldA .false 2 1 (.t 203)), .none⟩, ⟨(.some 205), (.load .false 1 (.t 204)), .none⟩, ⟨(.some 206), (.bin .eql (.t 199) (.t 205)), .none⟩, ⟨(.some 207), (.mov (.t 206)), .none⟩, ⟨(.some 208), (.mov (.t 0)), (.some ((.t 207), .true))⟩, ⟨(.some 209), (.fldA .false 5 1 (.t 9)), (.some ((.t 207), .true))⟩, ⟨(.some 210), (.load .false 1 (.t 209)), (.some ((.t 207), .true))⟩, ⟨(.some 211), (.idxA 4 (.t 208) (.t 210)), (.some ((.t 207), .true))⟩, ⟨(.some 212), (.fldA .false 2 1 (.t 211)), (.some ((.t 207), .true))⟩, ⟨(.some 213), (.load .false 1 (.t 212)), (.some ((.t 207), .true))⟩, ⟨(.some 214), (.mov (.t 7)), (.some ((.t 207), .true))⟩, ⟨(.some 215), (.fldA .false 5 1 (.t 10)), (.some ((.t 207), .true))⟩, ⟨(.some 216), (.load .false 1 (.t 215)), (.some ((.t 207), .true))⟩, ⟨(.some 217), (.idxA 4 (.t 214) (.t 216)), (.some ((.t 207), .true))⟩, ⟨(.some 218), (.fldA .false 2 1 (.t 217)), (.some ((.t 207), .true))⟩, ⟨(.some 219), (.load .false 1 (.t 218)), (.some ((.t 207), .true))⟩, ⟨(.some 220), (.bin .eql (.t 213) (.t 219)), (.some ((.t 207), .true))⟩, ⟨(.some 221), (.pick (.t 207) (.t 220) (.c (.bool .false))), .none⟩, ⟨(.some 222), (.mov (.t 221)), .none⟩, ⟨(.some 223), (.fldA .false 4 1 (.t 9)), (.some ((.t 222), .true))⟩, ⟨(.some 224), (.load .false 1 (.t 223)), (.some ((.t 222), .true))⟩, ⟨(.some 225), (.fldA .false 4 1 (.t 10)), (.some ((.t 222), .true))⟩, ⟨(.some 226), (.load .false 1 (.t 225)), (.some ((.t 222), .true))⟩, ⟨(.some 227), (.bin .add (.t 224) (.t 226)), (.some ((.t 222), .true))⟩, ⟨(.some 228), (.mov (.t 0)), (.some ((.t 222), .true))⟩, ⟨(.some 229), (.len .false (.t 228)), (.some ((.t 222), .true))⟩, ⟨(.some 230), (.bin .sub (.t 229) (.c (.int .i64 1))), (.some ((.t 222), .true))⟩, ⟨(.some 231), (.bin .leq (.t 227) (.t 230)), (.some ((.t 222), .true))⟩, ⟨(.some 232), (.pick (.t 222) (.t 231) (.c (.bool .false))), .none⟩, ⟨(.some 233), (.mov (.t 232)), .none⟩, ⟨(.some 234), (.call (.c (.fn 6 [])) []), (.some ((.t 233), .true))⟩, ⟨(.some 235), (.pick (.t 233) (.t 234) (.c (.bool .false))), .none⟩, ⟨(.some 4), (.mov (.t 235)), .none⟩]) .ret)))))))))))), [(.tmp (.t 4))]⟩
theorem e3 : cfn Tryd.prog Tryd.f3 = some c3 := by kernel_rfl
theorem k3 : callable Tryd.prog 3 = true := by kernel_rfl
def c4 : VFn := ⟨88, (.seq (.reg .false [⟨(.some 4), (.mov (.c (.bool .false))), .none⟩]) (.seq (.seq (.reg .false [⟨(.some 16), (.mov (.t 0)), .none⟩, ⟨(.some 17), (.len .false (.t 16)), .none⟩, ⟨(.some 18), (.bin .gtr (.t 17) (.c (.int .i64 100))), .none⟩, ⟨(.some 19), (.mov (.t 18)), .none⟩, ⟨(.some 20), (.mov (.t 1)), (.some ((.t 19), .false))⟩, ⟨(.some 21), (.len .true (.t 20)), (.some ((.t 19), .false))⟩, ⟨(.some 22), (.bin .gtr (.t 21) (.c (.int .i64 3000))), (.some ((.t 19), .false))⟩, ⟨(.some 23), (.pick (.t 19) (.c (.bool .true)) (.t 22)), .none⟩]) (.cond (.t 23) (.seq (.reg .false [⟨(.some 24), (.call (.c (.fn 6 [])) []), .none⟩, ⟨(.some 4), (.mov (.t 24)), .none⟩]) .ret) .skip)) (.seq (.reg .false [⟨(.some 25), (.bslice 24 4 []), .none⟩, ⟨(.some 26), (.mov (.t 0)), .none⟩, ⟨(.some 27), (.append 24 4 32 (.t 25) (.t 26)), .none⟩, ⟨(.some 5), (.mov (.t 27)), .none⟩]) (.seq (.reg .false [⟨(.some 29), (.mov (.t 5)), .none⟩, ⟨(.some 30), (.call (.c (.fn 8 [])) [(.t 29)]), .none⟩, ⟨(.some 28), (.mov (.t 30)), .none⟩, ⟨(.some 31), (.ext 0 (.t 28)), .none⟩, ⟨(.some 32), (.ext 1 (.t 28)), .none⟩, ⟨(.some 6), (.mov (.t 31)), .none⟩, ⟨(.some 7), (.mov (.t 32)), .none⟩]) (.seq (.reg .false [⟨(.some 34), (.mov (.t 0)), .none⟩, ⟨(.some 35), (.call (.c (.fn 9 [])) [(.t 34)]), .none⟩, ⟨(.some 33), (.mov (.t 35)), .none⟩, ⟨(.some 36), (.ext 0 (.t 33)), .none⟩, ⟨(.some 37), (.ext 1 (.t 33)), .none⟩, ⟨(.some 8), (.mov (.t 36)), .none⟩, ⟨(.some 9), (.mov (.t 37)), .none⟩]) (.seq (.reg .false [⟨(.some 39), (.mov (.t 1)), .none⟩, ⟨(.some 40), (.call (.c (.fn 10 [])) [(.t 39)]), .none⟩, ⟨(.some 38), (.mov (.t 40)), .none⟩, ⟨(.some 41), (.ext 0 (.t 38)), .none⟩, ⟨(.some 42), (.ext 1 (.t 38)), .none⟩, ⟨(.some 43), (.ext 2 (.t 38)), .none⟩, ⟨(.some 10), (.mov (.t 41)), .none⟩, ⟨(.some 11), (.mov (.t 42)), .none⟩, ⟨(.some 12), (.mov (.t 43)), .none⟩]) (.seq (.reg .false [⟨(.some 45), (.mov (.t 1)), .none⟩, ⟨(.some 46), (.call (.c (.fn 11 [])) [(.t 45)]), .none⟩, ⟨(.some 44), (.mov (.t 46)), .none⟩, ⟨(.some 47), (.ext 0 (.t 44)), .none⟩, ⟨(.some 48), (.ext 1 (.t 44)), .none⟩, ⟨(.some 49), (.ext 2 (.t 44)), .none⟩, ⟨(.some 13), (.mov (.t 47)), .none⟩, ⟨(.some 14), (.mov (.t 48)), .none⟩, ⟨(.some 15), (.mov (.t 49)), .none⟩]) (.seq (.reg .false [⟨(.some 50), (.mov (.t 5)), .none⟩, ⟨(.some 51), (.call (.c (.fn 7 [])) [(.t 50)]), .none⟩, ⟨(.some 52), (.mov (.t 0)), .none⟩, ⟨(.some 53), (.call (.c (.fn 12 [])) [(.t 52)]), .none⟩, ⟨(.some 54), (.eqS .false [0, 0, 0, 0, 0, 0] (.t 51) (.t 53)), .none⟩, ⟨(.some 55), (.mov (.t 54)), .none⟩, ⟨(.some 56), (.mov (.t 6)), (.some ((.t 55), .true))⟩, ⟨(.some 57), (.mov (.t 8)), (.some ((.t 55), .true))⟩, ⟨(.some 58), (.bin .eql (.t 56) (.t 57)), (.some ((.t 55), .true))⟩, ⟨(.some 59), (.pick (.t 55) (.t 58) (.c (.bool .false))), .none⟩, ⟨(.some 60), (.mov (.t 59)), .none⟩, ⟨(.some 61), (.mov (.t 7)), (.some ((.t 60), .true))⟩, ⟨(.some 62), (.mov (.t 9)), (.some ((.t 60), .true))⟩, ⟨(.some 63), (.bin .eql (.t 61) (.t 62)), (.some ((.t 60), .true))⟩, ⟨(.some 64), (.pick (.t 60) (.t 63) (.c (.bool .false))), .none⟩, ⟨(.some 65), (.mov (.t 64)), .none⟩, ⟨(.some 66), (.mov (.t 10)), (.some ((.t 65), .true))⟩, ⟨(.some 67), (.mov (.t 13)), (.some ((.t 65), .true))⟩, ⟨(.some 68), (.call (.c (.fn 13 [])) [(.t 66), (.t 67)]), (.some ((.t 65), .true))⟩, ⟨(.some 69), (.pick (.t 65) (.t 68) (.c (.bool .false))), .none⟩, ⟨(.some 70), (.mov (.t 69)), .none⟩, ⟨(.some 71), (.mov (.t 11)), (.some ((.t 70), .true))⟩, ⟨(.some 72), (.mov (.t 14)), (.some ((.t 70), .true))⟩, ⟨(.some 73), (.bin .eql (.t 71) (.t 72)), (.some ((.t 70), .true))⟩, ⟨(.some 74), (.pick (.t 70) (.t 73) (.c (.bool .false))), .none⟩, ⟨(.some 75), (.mov (.t 74)), .none⟩, ⟨(.some 76), (.mov (.t 12)), (.some ((.t 75), .true))⟩, ⟨(.some 77), (.mov (.t 15)), (.some ((.t 75), .true))⟩, ⟨(.some 78), (.bin .eql (.t 76) (.t 77)), (.some ((.t 75), .true))⟩, ⟨(.some 79), (.pick (.t 75) (.t 78) (.c (.bool .false))), .none⟩, ⟨(.some 80), (.mov (.t 79)), .none⟩, ⟨(.some 81), (.mov (.t 5)), (.some ((.t 80), .true))⟩, ⟨(.some 82), (.mov (.t 0)), (.some ((.t 80), .true))⟩, ⟨(.some 83), (.call (.c (.fn 13 [])) [(.t 81), (.t 82)]), (.some ((.t 80), .true))⟩, ⟨(.some 84), (.pick (.t 80) (.t 83) (.c (.bool .false))), .none⟩, ⟨(.some 85), (.mov (.t 84)), .none⟩, ⟨(.some 86), (.call (.c (.fn 6 [])) []), (.some ((.t 85), .true))⟩, ⟨(.some 87), (.pick (.t 85) (.t 86) (.c (.bool .false))), .none⟩, ⟨(.some 4), (.mov (.t 87)), .none⟩]) .ret)))))))), [(.tmp (.t 4))]⟩
theorem e4 : cfn Tryd.prog Tryd.f4 = some c4 := by kernel_rfl
theorem k4 : callable Tryd.prog 4 = true := by kernel_rfl
def c5 : VFn := ⟨105, (.seq (.reg .false [⟨(.some 4), (.mov (.c (.bool .false))), .none⟩]) (.seq (.seq (.reg .false [⟨(.some 16), (.mov (.t 0)), .none⟩, ⟨(.some 17), (.len .false (.t 16)), .none⟩, ⟨(.some 18), (.bin .gtr (.t 17) (.c (.int .i64 100))), .none⟩, ⟨(.some 19), (.mov (.t 18)), .none⟩, ⟨(.some 20), (.mov (.t 1)), (.some ((.t 19), .false))⟩, ⟨(.some 21), (.len .true (.t 20)), (.some ((.t 19), .false))⟩, ⟨(.some 22), (.bin .gtr (.t 21) (.c (.int .i64 3000))), (.some ((.t 19), .false))⟩, ⟨(.some 23), (.pick (.t 19) (.c (.bool .true)) (.t 22)), .none⟩]) (.cond (.t 23) (.seq (.reg .false [⟨(.some 24), (.call (.c (.fn 6 [])) []), .none⟩, ⟨(.some 4), (.mov (.t 24)), .none⟩]) .ret) .skip)) (.seq (.reg .false [⟨(.some 26), (.mov (.t 0)), .none⟩, ⟨(.some 27), (.call (.c (.fn 8 [])) [(.t 26)]), .none⟩, ⟨(.some 25), (.mov (.t 27)), .none⟩, ⟨(.some 28), (.ext 0 (.t 25)), .none⟩, ⟨(.some 29), (.ext 1 (.t 25)), .none⟩, ⟨(.some 5), (.mov (.t 28)), .none⟩, ⟨(.some 6), (.mov (.t 29)), .none⟩]) (.seq (.seq (.reg .false [⟨(.some 30), (.mov (.t 6)), .none⟩, ⟨(.some 31), (.bin .eql (.t 30) (.c (.int .i64 0))), .none⟩]) (.cond (.t 31) (.seq (.reg .false [⟨(.some 33), (.mov (.t 5)), .none⟩, ⟨(.some 34), (.call (.c (.fn 10 [])) [(.t 33)]), .none⟩, ⟨(.some 32), (.mov (.t 34)), .none⟩, ⟨(.some 35), (.ext 0 (.t 32)), .none⟩, ⟨(.some 36), (.ext 1 (.t 32)), .none⟩, ⟨(.some 37), (.ext 2 (.t 32)), .none⟩, ⟨(.some 7), (.mov (.t 35)), .none⟩, ⟨(.some 8), (.mov (.t 36)), .none⟩, ⟨(.some 9), (.mov (.t 37)), .none⟩]) (.seq (.seq (.reg .false [⟨(.some 38), (.mov (.t 9)), .none⟩, ⟨(.some 39), (.bin .neq (.t 38) (.c (.int .i64 0))), .none⟩, ⟨(.some 40), (.mov (.t 39)), .none⟩, ⟨(.some 41), (.mov (.t 8)), (.some ((.t 40), .false))⟩, ⟨(.some 42), (.bin .neq (.t 41) (.c (.int .i64 0))), (.some ((.t 40), .false))⟩, ⟨(.some 43), (.pick (.t 40) (.c (.bool .true)) (.t 42)), .none⟩, ⟨(.some 44), (.mov (.t 43)), .none⟩, ⟨(.some 45), (.mov (.t 7)), (.some ((.t 44), .false))⟩, ⟨(.some 46), (.len .false (.t 45)), (.some ((.t 44), .false))⟩, ⟨(.some 47), (.mov (.t 0)), (.some ((.t 44), .false))⟩, ⟨(.some 48), (.len .false (.t 47)), (.some ((.t 44), .false))⟩, ⟨(.some 49), (.bin .neq (.t 46) (.t 48)), (.some ((.t 44), .false))⟩, ⟨(.some 50), (.pick (.t 44) (.c (.bool .true)) (.t 49)), .none⟩]) (.cond (.t 50) (.seq (.reg .false [⟨(.some 4), (.mov (.c (.bool .false))), .none⟩]) .ret) .skip)) (.seq (.reg .false [⟨(.some 10), (.mov (.c (.int .i64 0))), .none⟩]) (.block 0 (.loop (.seq (.seq (.reg .false [⟨(.some 51), (.mov (.t 10)), .none⟩, ⟨(.some 52), (.mov (.t 0)), .none⟩, ⟨(.some 53), (.len .false (.t 52)), .none⟩, ⟨(.some 54), (.bin .lss (.t 51) (.t 53)), .none⟩]) (.cond (.t 54) .skip (.exit 0))) (.seq (.block 1 (.seq (.reg .true [⟨(.some 57), (.mov (.t 7)), .none⟩, ⟨(.some 58), (.mov (.t 10)), .none⟩, ⟨(.some 59), (.idxA 4 (.t 57) (.t 58)), .none⟩, ⟨(.some 60), (.load .true 4 (.t 59)), .none⟩, ⟨(.some 61), (.mov (.t 0)), .none⟩, ⟨(.some 62), (.mov (.t 10)), .none⟩, ⟨(.some 63), (.idxA 4 (.t 61) (.t 62)), .none⟩, ⟨(.some 64), (.load .true 4 (.t 63)), .none⟩, ⟨(.some 65), (.eqS .true [0, 0, 0, 0] (.t 60) (.t 64)), .none⟩]) (.cond (.t 65) (.seq (.reg .false [⟨(.some 4), (.mov (.c (.bool .false))), .none⟩]) .ret) .skip))) (.reg .false [⟨(.some 55), (.mov (.t 10)), .none⟩, ⟨(.some 56), (.bin .add (.t 55) (.c (.int .i64 1))), .none⟩, ⟨(.some 10), (.mov (.t 56)), .none⟩])))))))) (.seq (.reg .false [⟨(.some 66), (.mov (.t 5)), .none⟩, ⟨(.some 67), (.bin .neq (.t 66) (.c (.str []))), .none⟩, ⟨(.some 68), (.mov (.t 67)), .none⟩, ⟨(.some 69), (.mov (.t 6)), (.some ((.t 68), .false))⟩, ⟨(.some 70), (.bin .neq (.t 69) (.c (.int .i64 4))), (.some ((.t 68), .false))⟩, ⟨(.some 71), (.pick (.t 68) (.c (.bool .true)) (.t 70)), .none⟩]) (.cond (.t 71) (.seq (.reg .false [⟨(.some 4), (.mov (.c (.bool .false))), .none⟩]) .ret) .skip)))) (.seq (.reg .false [⟨(.some 73), (.mov (.t 1)), .none⟩, ⟨(.some 74), (.call (.c (.fn 10 [])) [(.t 73)]), .none⟩, ⟨(.some 72), (.mov (.t 74)), .none⟩, ⟨(.some 75), (.ext 0 (.t 72)), .none⟩, ⟨(.some 76), (.ext 1 (.t 72)), .none⟩, ⟨(.some 77), (.ext 2 (.t 72)), .none⟩, ⟨(.some 11), (.mov (.t 75)), .none⟩, ⟨(.some 12), (.mov (.t 76)), .none⟩, ⟨(.some 13), (.mov (.t 77)), .none⟩]) (.seq (.seq (.reg .false [⟨(.some 78), (.mov (.t 13)), .none⟩, ⟨(.some 79), (.bin .neq (.t 78) (.c (.int .i64 0))), .none⟩]) (.cond (.t 79) (.seq (.reg .false [⟨(.some 80), (.mov (.t 11)), .none⟩, ⟨(.some 81), (.len .false (.t 80)), .none⟩, ⟨(.some 82), (.bin .eql (.t 81) (.c (.int .i64 0))), .none⟩, ⟨(.some 83), (.mov (.t 82)), .none⟩, ⟨(.some 84), (.mov (.t 12)), (.some ((.t 83), .true))⟩, ⟨(.some 85), (.bin .gtr (.t 84) (.c (.int .i64 0))), (.some ((.t 83), .true))⟩, ⟨(.some 86), (.pick (.t 83) (.t 85) (.c (.bool .false))), .none⟩, ⟨(.some 87), (.mov (.t 86)), .none⟩, ⟨(.some 88), (.call (.c (.fn 6 [])) []), (.some ((.t 87), .true))⟩, ⟨(.some 89), (.pick (.t 87) (.t 88) (.c (.bool .false))), .none⟩, ⟨(.some 4), (.mov (.t 89)), .none⟩]) .ret) .skip)) (.seq (.reg .false [⟨(.some 91), (.mov (.t 11)), .none⟩, ⟨(.some 92), (.call (.c (.fn 8 [])) [(.t 91)]), .none⟩, ⟨(.some 90), (.mov (.t 92)), .none⟩, ⟨(.some 93), (.ext 0 (.t 90)), .none⟩, ⟨(.some 94), (.ext 1 (.t 90)), .none⟩, ⟨(.some 14), (.mov (.t 93)), .none⟩, ⟨(.some 15), (.mov (.t 94)), .none⟩]) (.seq (.reg .false [⟨(.some 95), (.mov (.t 14)), .none⟩, ⟨(.some 96), (.mov (.t 1)), .none⟩, ⟨(.some 97), (.bin .eql (.t 95) (.t 96)), .none⟩, ⟨(.some 98), (.mov (.t 97)), .none⟩, ⟨(.some 99), (.mov (.t 15)), (.some ((.t 98), .true))⟩, ⟨(.some 100), (.bin .eql (.t 99) (.c (.int .i64 0))), (.some ((.t 98), .true))⟩, ⟨(.some 101), (.pick (.t 98) (.t 100) (.c (.bool .false))), .none⟩, ⟨(.some 102), (.mov (.t 101)), .none⟩, ⟨(.some 103), (.call (.c (.fn 6 [])) []), (.some ((.t 102), .true))⟩, ⟨(.some 104), (.pick (.t 102) (.t 103) (.c (.bool .false))), .none⟩, ⟨(.some 4), (.mov (.t 104)), .none⟩]) .ret)))))))), [(.tmp (.t 4))]⟩
theorem e5 : cfn Tryd.prog Tryd.f5 = some c5 := by kernel_rfl
theorem k5 : callable Tryd.prog 5 = true := by kernel_rfl
def c6 : VFn := ⟨58, (.seq (.reg .false [⟨(.some 0), (.mov (.c (.bool .false))), .none⟩]) (.seq (.reg .false [⟨(.some 9), (.build [(.int .i64 0), (.int .i64 0), (.int .i64 0), (.int .i64 0), (.int .i64 0), (.int .i64 0), (.int .i64 0)] [(4, (1, (.c (.int .i64 0)))), (6, (1, (.c (.int .i64 3))))]), .none⟩, ⟨(.some 10), (.build [(.int .i64 0), (.int .i64 0), (.int .i64 0), (.int .i64 0), (.int .i64 0), (.int .i64 0), (.int .i64 0)] [(1, (1, (.c (.int .i64 1)))), (4, (1, (.c (.int .i64 5)))), (6, (1, (.c (.int .i64 4))))]), .none⟩, ⟨(.some 11), (.bslice 39 7 [(.t 9), (.t 10)]), .none⟩, ⟨(.some 12), (.build [(.int .i64 0), (.int .i64 0), .nils, .nils, .nils] [(0, (1, (.c (.int .i64 2)))), (1, (1, (.c (.int .i64 1)))), (3, (1, (.t 11)))]), .none⟩, ⟨(.some 1), (.alloc 42 5 (.agg [(.int .i64 0), (.int .i64 0), .nils, .nils, .nils])), .none⟩, ⟨.none, (.store 5 (.t 1) (.t 12)), .none⟩]) (.seq (.reg .false [⟨(.some 13), (.build [(.int .i64 0), (.int .i64 0), (.int .i64 0), (.int .i64 0)] [(0, (1, (.c (.int .i64 2)))), (1, (1, (.c (.int .i64 1)))), (2, (1, (.c (.int .i64 9)))), (3, (1, (.c (.int .i64 1))))]), .none⟩, ⟨(.some 2), (.alloc 24 4 (.agg [(.int .i64 0), (.int .i64 0), (.int .i64 0), (.int .i64 0)])), .none⟩, ⟨.none, (.store 4 (.t 2) (.t 13)), .none⟩]) (.seq (.reg .false [⟨(.some 15), (.call (.c (.fn 10 [])) [(.c (.str [50, 32, 49, 32, 57, 32, 49, 10]))]), .none⟩, ⟨(.some 14), (.mov (.t 15)), .none⟩, ⟨(.some 16), (.ext 0 (.t 14)), .none⟩, ⟨(.some 17), (.ext 1 (.t 14)), .none⟩, ⟨(.some 18), (.ext 2 (.t 14)), .none⟩, ⟨(.some 3), (.mov (.t 16)), .none⟩, ⟨(.some 4), (.mov (.t 17)), .none⟩, ⟨(.some 5), (.mov (.t 18)), .none⟩]) (.seq (.reg .false [⟨(.some 20), (.call (.c (.fn 10 [])) [(.c (.str [50, 32, 49, 32, 57, 32, 49, 10, 50, 32, 49, 32, 48, 57, 32, 49, 10]))]), .none⟩, ⟨(.some 19), (.mov (.t 20)), .none⟩, ⟨(.some 21), (.ext 0 (.t 19)), .none⟩, ⟨(.some 22), (.ext 1 (.t 19)), .none⟩, ⟨(.some 23), (.ext 2 (.t 19)), .none⟩, ⟨(.some 6), (.mov (.t 21)), .none⟩, ⟨(.some 7), (.mov (.t 22)), .none⟩, ⟨(.some 8), (.mov (.t 23)), .none⟩]) (.seq (.reg .true [⟨(.some 24), (.load .true 5 (.t 1)), .none⟩, ⟨(.some 25), (.call (.c (.fn 14 [])) [(.t 24), (.c (.int .i64 10))]), .none⟩, ⟨(.some 26), (.load .true 4 (.t 2)), .none⟩, ⟨(.some 27), (.eqS .false [0, 0, 0, 0] (.t 25) (.t 26)), .none⟩, ⟨(.some 28), (.mov (.t 27)), .none⟩, ⟨(.some 29), (.bslice 3 1 [(.c (.int .i64 9)), (.c (.int .i64 0)), (.c (.int .i64 4)), (.c (.int .i64 9))]), (.some ((.t 28), .true))⟩, ⟨(.some 30), (.call (.c (.fn 15 [])) [(.t 29)]), (.some ((.t 28), .true))⟩, ⟨(.some 31), (.call (.c (.fn 7 [])) [(.t 30)]), (.some ((.t 28), .true))⟩, ⟨(.some 32), (.build [(.int .i64 0), (.int .i64 0), (.int .i64 0), (.int .i64 0), (.int .i64 0), (.int .i64 0)] [(0, (1, (.c (.int .i64 4)))), (1, (1, (.c (.int .i64 1)))), (2, (1, (.c (.int .i64 22)))), (3, (1, (.c (.int .i64 18)))), (5, (1, (.c (.int .i64 2))))]), (.some ((.t 28), .true))⟩, ⟨(.some 33), (.eqS .false [0, 0, 0, 0, 0, 0] (.t 31) (.t 32)), (.some ((.t 28), .true))⟩, ⟨(.some 34), (.pick (.t 28) (.t 33) (.c (.bool .false))), .none⟩, ⟨(.some 35), (.mov (.t 34)), .none⟩, ⟨(.some 36), (.call (.c (.fn 7 [])) [(.c .nils)]), (.some ((.t 35), .true))⟩, ⟨(.some 37), (.build [(.int .i64 0), (.int .i64 0), (.int .i64 0), (.int .i64 0), (.int .i64 0), (.int .i64 0)] [(4, (1, (.c (.int .i64 (-1))))), (5, (1, (.c (.int .i64 (-1)))))]), (.some ((.t 35), .true))⟩, ⟨(.some 38), (.eqS .false [0, 0, 0, 0, 0, 0] (.t 36) (.t 37)), (.some ((.t 35), .true))⟩, ⟨(.some 39), (.pick (.t 35) (.t 38) (.c (.bool .false))), .none⟩, ⟨(.some 40), (.mov (.t 39)), .none⟩, ⟨(.some 41), (.mov (.t 3)), (.some ((.t 40), .true))⟩, ⟨(.some 42), (.load .true 4 (.t 2)), (.some ((.t 40), .true))⟩, ⟨(.some 43), (.bslice 24 4 [(.t 42)]), (.some ((.t 40), .true))⟩, ⟨(.some 44), (.call (.c (.fn 13 [])) [(.t 41), (.t 43)]), (.some ((.t 40), .true))⟩, ⟨(.some 45), (.pick (.t 40) (.t 44) (.c (.bool .false))), .none⟩, ⟨(.some 46), (.mov (.t 45)), .none⟩, ⟨(.some 47), (.mov (.t 5)), (.some ((.t 46), .true))⟩, ⟨(.some 48), (.bin .eql (.t 47) (.c (.int .i64 0))), (.some ((.t 46), .true))⟩, ⟨(.some 49), (.pick (.t 46) (.t 48) (.c (.bool .false))), .none⟩, ⟨(.some 50), (.mov (.t 49)), .none⟩, ⟨(.some 51), (.mov (.t 7)), (.some ((.t 50), .true))⟩, ⟨(.some 52), (.bin .eql (.t 51) (.c (.int .i64 2))), (.some ((.t 50), .true))⟩, ⟨(.some 53), (.pick (.t 50) (.t 52) (.c (.bool .false))), .none⟩, ⟨(.some 54), (.mov (.t 53)), .none⟩, ⟨(.some 55), (.mov (.t 8)), (.some ((.t 54), .true))⟩, ⟨(.some 56), (.bin .eql (.t 55) (.c (.int .i64 1))), (.some ((.t 54), .true))⟩, ⟨(.some 57), (.pick (.t 54) (.t 56) (.c (.bool .false))), .none⟩, ⟨(.some 0), (.mov (.t 57)), .none⟩]) .ret)))))), [(.tmp (.t 0))]⟩
theorem e6 : cfn Tryd.prog Tryd.f6 = some c6 := by kernel_rfl
theorem k6 : callable Tryd.prog 6 = true := by kernel_rfl
def c7 : VFn := ⟨21, (.seq (.reg .false [⟨(.some 2), (.alloc 27 6 (.agg [(.int .i64 0), (.int .i64 0), (.int .i64 0), (.int .i64 0), (.int .i64 0), (.int .i64 0)])), .none⟩]) (.seq (.reg .false [⟨(.some 6), (.build [(.int .i64 0), (.int .i64 0), (.int .i64 0), (.int .i64 0), (.int .i64 0), (.int .i64 0)] [(4, (1, (.c (.int .i64 (-1))))), (5, (1, (.c (.int .i64 (-1)))))]), .none⟩, ⟨(.some 7), (.build [(.int .i64 0), (.int .i64 0), (.int .i64 0), (.int .i64 0), (.int .i64 0), (.int .i64 0), (.int .i64 0), (.int .i64 0)] [(0, (6, (.t 6)))]), .none⟩, ⟨(.some 3), (.alloc 46 8 (.agg [(.int .i64 0), (.int .i64 0), (.int .i64 0), (.int .i64 0), (.int .i64 0), (.int .i64 0), (.int .i64 0), (.int .i64 0)])), .none⟩, ⟨.none, (.store 8 (.t 3) (.t 7)), .none⟩]) (.seq (.seq (.reg .false [⟨(.some 8), (.mov (.t 0)), .none⟩, ⟨(.some 9), (.len .false (.t 8)), .none⟩, ⟨(.some 10), (.mov (.c (.int .i64 0))), .none⟩]) (.block 0 (.loop (.seq (.reg .false [⟨(.some 11), (.bin .lss (.t 10) (.t 9)), .none⟩]) (.seq (.cond (.t 11) .skip (.exit 0)) (.seq (.block 1 (.seq (.reg .false [⟨(.some 12), (.mov (.t 10)), .none⟩, ⟨(.some 13), (.idxA 4 (.t 8) (.t 10)), .none⟩, ⟨(.some 14), (.load .true 4 (.t 13)), .none⟩, ⟨(.some 5), (.alloc 24 4 (.agg [(.int .i64 0), (.int .i64 0), (.int .i64 0), (.int .i64 0)])), .none⟩, ⟨(.some 4), (.mov (.t 12)), .none⟩, ⟨.none, (.store 4 (.t 5) (.t 14)), .none⟩]) (.reg .false [⟨(.some 15), (.mov (.t 4)), .none⟩, ⟨(.some 16), (.load .true 4 (.t 5)), .none⟩, ⟨(.some 17), (.call (.c (.fn 16 [])) [(.t 3), (.t 15), (.t 16)]), .none⟩]))) (.reg .false [⟨(.some 18), (.bin .add (.t 10) (.c (.int .i64 1))), .none⟩, ⟨(.some 10), (.mov (.t 18)), .none⟩]))))))) (.seq (.reg .false [⟨(.some 19), (.fldA .true 0 6 (.t 3)), .none⟩, ⟨(.some 20), (.load .true 6 (.t 19)), .none⟩, ⟨.none, (.store 6 (.t 2) (.t 20)), .none⟩]) .ret)))), [(.cell .true 6 (.t 2))]⟩
theorem e7 : cfn Tryd.prog Tryd.f7 = some c7 := by kernel_rfl
theorem k7 : callable Tryd.prog 7 = true := by kernel_rfl
def c8 : VFn := ⟨41, (.seq (.reg .false [⟨(.some 2), (.mov (.c (.str []))), .none⟩, ⟨(.some 3), (.mov (.c (.int .i64 0))), .none⟩]) (.seq (.reg .false [⟨(.some 4), (.alloc 51 2 (.agg [.nilp, .nils])), .none⟩]) (.seq (.seq (.reg .false [⟨(.some 9), (.mov (.t 0)), .none⟩, ⟨(.some 10), (.len .false (.t 9)), .none⟩, ⟨(.some 11), (.mov (.c (.int .i64 0))), .none⟩]) (.block 0 (.loop (.seq (.reg .false [⟨(.some 12), (.bin .lss (.t 11) (.t 10)), .none⟩]) (.seq (.cond (.t 12) .skip (.exit 0)) (.seq (.block 1 (.seq (.reg .false [⟨(.some 13), (.idxA 4 (.t 9) (.t 11)), .none⟩, ⟨(.some 14), (.load .true 4 (.t 13)), .none⟩, ⟨(.some 6), (.alloc 24 4 (.agg [(.int .i64 0), (.int .i64 0), (.int .i64 0), (.int .i64 0)])), .none⟩, ⟨.none, (.store 4 (.t 6) (.t 14)), .none⟩]) (.seq (.seq (.reg .false [⟨(.some 15), (.load .true 4 (.t 6)), .none⟩, ⟨(.some 16), (.call (.c (.fn 17 [])) [(.t 15)]), .none⟩, ⟨(.some 17), (.not (.t 16)), .none⟩]) (.cond (.t 17) (.seq (.reg .false [⟨(.some 2), (.mov (.c (.str []))), .none⟩, ⟨(.some 3), (.mov (.c (.int .i64 4))), .none⟩]) .ret) .skip)) (.seq (.seq (.reg .false [⟨(.some 18), (.fldA .false 0 1 (.t 6)), .none⟩, ⟨(.some 19), (.load .false 1 (.t 18)), .none⟩, ⟨(.some 20), (.fldA .false 1 1 (.t 6)), .none⟩, ⟨(.some 21), (.load .false 1 (.t 20)), .none⟩, ⟨(.some 22), (.fldA .false 2 1 (.t 6)), .none⟩, ⟨(.some 23), (.load .false 1 (.t 22)), .none⟩, ⟨(.some 24), (.fldA .false 3 1 (.t 6)), .none⟩, ⟨(.some 25), (.load .false 1 (.t 24)), .none⟩, ⟨(.some 26), (.build [(.int .i64 0), (.int .i64 0), (.int .i64 0), (.int .i64 0)] [(0, (1, (.t 19))), (1, (1, (.t 21))), (2, (1, (.t 23))), (3, (1, (.t 25)))]), .none⟩, ⟨(.some 27), (.mov (.c (.int .i64 0))), .none⟩]) (.block 2 (.loop (.seq (.reg .false [⟨(.some 28), (.bin .lss (.t 27) (.c (.int .i64 4))), .none⟩]) (.seq (.cond (.t 28) .skip (.exit 2)) (.seq (.block 3 (.seq (.reg .false [⟨(.some 29), (.mov (.t 27)), .none⟩, ⟨(.some 30), (.idxV .false 4 1 (.t 26) (.t 27)), .none⟩, ⟨(.some 7), (.mov (.t 29)), .none⟩, ⟨(.some 8), (.mov (.t 30)), .none⟩]) (.seq (.seq (.reg .false [⟨(.some 31), (.mov (.t 7)), .none⟩, ⟨(.some 32), (.bin .gtr (.t 31) (.c (.int .i64 0))), .none⟩]) (.cond (.t 32) (.reg .false [⟨(.some 33), (.call (.c (.fn 18 [])) [(.t 4), (.c (.int .u8 32))]), .none⟩]) .skip)) (.reg .false [⟨(.some 34), (.mov (.t 8)), .none⟩, ⟨(.some 35), (.call (.c (.fn 20 [])) [(.t 34)]), .none⟩, ⟨(.some 36), (.call (.c (.fn 19 [])) [(.t 4), (.t 35)]), .none⟩])))) (.reg .false [⟨(.some 37), (.bin .add (.t 27) (.c (.int .i64 1))), .none⟩, ⟨(.some 27), (.mov (.t 37)), .none⟩]))))))) (.reg .false [⟨(.some 38), (.call (.c (.fn 18 [])) [(.t 4), (.c (.int .u8 10))]), .none⟩]))))) (.reg .false [⟨(.some 39), (.bin .add (.t 11) (.c (.int .i64 1))), .none⟩, ⟨(.some 11), (.mov (.t 39)), .none⟩]))))))) (.seq (.reg .false [⟨(.some 40), (.call (.c (.fn 21 [])) [(.t 4)]), .none⟩, ⟨(.some 2), (.mov (.t 40)), .none⟩, ⟨(.some 3), (.mov (.c (.int .i64 0))), .none⟩]) .ret)))), [(.tmp (.t 2)), (.tmp (.t 3))]⟩
theorem e8 : cfn Tryd.prog Tryd.f8 = some c8 := by kernel_rfl
theorem k8 : callable Tryd.prog 8 = true := by kernel_rfl
def c9 : VFn := ⟨52, (.seq (.reg .false [⟨(.some 2), (.mov (.c (.str []))), .none⟩, ⟨(.some 3), (.mov (.c (.int .i64 0))), .none⟩]) (.seq (.reg .false [⟨(.some 4), (.mov (.c (.str []))), .none⟩]) (.seq (.seq (.reg .false [⟨(.some 5), (.mov (.c (.int .i64 0))), .none⟩]) (.block 0 (.loop (.seq (.seq (.reg .false [⟨(.some 6), (.mov (.t 5)), .none⟩, ⟨(.some 7), (.mov (.t 0)), .none⟩, ⟨(.some 8), (.len .false (.t 7)), .none⟩, ⟨(.some 9), (.bin .lss (.t 6) (.t 8)), .none⟩]) (.cond (.t 9) .skip (.exit 0))) (.seq (.block 1 (.seq (.seq (.reg .false [⟨(.some 12), (.mov (.t 0)), .none⟩, ⟨(.some 13), (.mov (.t 5)), .none⟩, ⟨(.some 14), (.idxA 4 (.t 12) (.t 13)), .none⟩, ⟨(.some 15), (.load .true 4 (.t 14)), .none⟩, ⟨(.some 16), (.call (.c (.fn 22 [])) [(.t 15)]), .none⟩, ⟨(.some 17), (.not (.t 16)), .none⟩]) (.cond (.t 17) (.seq (.reg .false [⟨(.some 2), (.mov (.c (.str []))), .none⟩, ⟨(.some 3), (.mov (.c (.int .i64 4))), .none⟩]) .ret) .skip)) (.reg .true [⟨(.some 18), (.mov (.t 4)), .none⟩, ⟨(.some 19), (.mov (.t 0)), .none⟩, ⟨(.some 20), (.mov (.t 5)), .none⟩, ⟨(.some 21), (.idxA 4 (.t 19) (.t 20)), .none⟩, ⟨(.some 22), (.fldA .false 0 1 (.t 21)), .none⟩, ⟨(.some 23), (.load .false 1 (.t 22)), .none⟩, ⟨(.some 24), (.call (.c (.fn 23 [])) [(.t 23)]), .none⟩, ⟨(.some 25), (.bin .add (.t 18) (.t 24)), .none⟩, ⟨(.some 26), (.bin .add (.t 25) (.c (.str [32]))), .none⟩, ⟨(.some 27), (.mov (.t 0)), .none⟩, ⟨(.some 28), (.mov (.t 5)), .none⟩, ⟨(.some 29), (.idxA 4 (.t 27) (.t 28)), .none⟩, ⟨(.some 30), (.fldA .false 1 1 (.t 29)), .none⟩, ⟨(.some 31), (.load .false 1 (.t 30)), .none⟩, ⟨(.some 32), (.call (.c (.fn 23 [])) [(.t 31)]), .none⟩, ⟨(.some 33), (.bin .add (.t 26) (.t 32)), .none⟩, ⟨(.some 34), (.bin .add (.t 33) (.c (.str [32]))), .none⟩, ⟨(.some 35), (.mov (.t 0)), .none⟩, ⟨(.some 36), (.mov (.t 5)), .none⟩, ⟨(.some 37), (.idxA 4 (.t 35) (.t 36)), .none⟩, ⟨(.some 38), (.fldA .false 2 1 (.t 37)), .none⟩, ⟨(.some 39), (.load .false 1 (.t 38)), .none⟩, ⟨(.some 40), (.call (.c (.fn 23 [])) [(.t 39)]), .none⟩, ⟨(.some 41), (.bin .add (.t 34) (.t 40)), .none⟩, ⟨(.some 42), (.bin .add (.t 41) (.c (.str [32]))), .none⟩, ⟨(.some 43), (.mov (.t 0)), .none⟩, ⟨(.some 44), (.mov (.t 5)), .none⟩, ⟨(.some 45), (.idxA 4 (.t 43) (.t 44)), .none⟩, ⟨(.some 46), (.fldA .false 3 1 (.t 45)), .none⟩, ⟨(.some 47), (.load .false 1 (.t 46)), .none⟩, ⟨(.some 48), (.call (.c (.fn 23 [])) [(.t 47)]), .none⟩, ⟨(.some 49), (.bin .add (.t 42) (.t 48)), .none⟩, ⟨(.some 50), (.bin .add (.t 49) (.c (.str [10]))), .none⟩, ⟨(.some 4), (.mov (.t 50)), .none⟩]))) (.reg .false [⟨(.some 10), (.mov (.t 5)), .none⟩, ⟨(.some 11), (.bin .add (.t 10) (.c (.int .i64 1))), .none⟩, ⟨(.some 5), (.mov (.t 11)), .none⟩])))))) (.seq (.reg .false [⟨(.some 51), (.mov (.t 4)), .none⟩, ⟨(.some 2), (.mov (.t 51)), .none⟩, ⟨(.some 3), (.mov (.c (.int .i64 0))), .none⟩]) .ret)))), [(.tmp (.t 2)), (.tmp (.t 3))]⟩
theorem e9 : cfn Tryd.prog Tryd.f9 = some c9 := by kernel_rfl
theorem k9 : callable Tryd.prog 9 = true := by kernel_rfl
def c10 : VFn := ⟨38, (.seq (.reg .false [⟨(.some 2), (.mov (.c .nils)), .none⟩, ⟨(.some 3), (.mov (.c (.int .i64 0))), .none⟩, ⟨(.some 4), (.mov (.c (.int .i64 0))), .none⟩]) (.seq (.block 0 (.loop (.seq (.seq (.reg .false [⟨(.some 10), (.mov (.t 0)), .none⟩, ⟨(.some 11), (.bin .neq (.t 10) (.c (.str []))), .none⟩]) (.cond (.t 11) .skip (.exit 0))) (.block 1 (.seq (.reg .false [⟨(.some 12), (.mov (.t 3)), .none⟩, ⟨(.some 13), (.bin .add (.t 12) (.c (.int .i64 1))), .none⟩, ⟨(.some 3), (.mov (.t 13)), .none⟩]) (.seq (.reg .false [⟨(.some 15), (.mov (.t 0)), .none⟩, ⟨(.some 16), (.call (.c (.fn 24 [])) [(.t 15), (.c (.str [10]))]), .none⟩, ⟨(.some 14), (.mov (.t 16)), .none⟩, ⟨(.some 17), (.ext 0 (.t 14)), .none⟩, ⟨(.some 18), (.ext 1 (.t 14)), .none⟩, ⟨(.some 19), (.ext 2 (.t 14)), .none⟩, ⟨(.some 5), (.mov (.t 17)), .none⟩, ⟨(.some 6), (.mov (.t 18)), .none⟩, ⟨(.some 7), (.mov (.t 19)), .none⟩]) (.seq (.reg .false [⟨(.some 21), (.mov (.t 5)), .none⟩, ⟨(.some 22), (.call (.c (.fn 25 [])) [(.t 21)]), .none⟩, ⟨(.some 20), (.mov (.t 22)), .none⟩, ⟨(.some 23), (.ext 0 (.t 20)), .none⟩, ⟨(.some 24), (.ext 1 (.t 20)), .none⟩, ⟨(.some 8), (.alloc 24 4 (.agg [(.int .i64 0), (.int .i64 0), (.int .i64 0), (.int .i64 0)])), .none⟩, ⟨.none, (.store 4 (.t 8) (.t 23)), .none⟩, ⟨(.some 9), (.mov (.t 24)), .none⟩]) (.seq (.seq (.reg .false [⟨(.some 25), (.mov (.t 7)), .none⟩, ⟨(.some 26), (.not (.t 25)), .none⟩, ⟨(.some 27), (.mov (.t 26)), .none⟩, ⟨(.some 28), (.mov (.t 9)), (.some ((.t 27), .false))⟩, ⟨(.some 29), (.not (.t 28)), (.some ((.t 27), .false))⟩, ⟨(.some 30), (.pick (.t 27) (.c (.bool .true)) (.t 29)), .none⟩]) (.cond (.t 30) (.seq (.reg .false [⟨(.some 31), (.mov (.t 3)), .none⟩, ⟨(.some 2), (.mov (.c .nils)), .none⟩, ⟨(.some 3), (.mov (.t 31)), .none⟩, ⟨(.some 4), (.mov (.c (.int .i64 1))), .none⟩]) .ret) .skip)) (.reg .false [⟨(.some 32), (.mov (.t 2)), .none⟩, ⟨(.some 33), (.load .true 4 (.t 8)), .none⟩, ⟨(.some 34), (.bslice 24 4 [(.t 33)]), .none⟩, ⟨(.some 35), (.append 24 4 32 (.t 32) (.t 34)), .none⟩, ⟨(.some 36), (.mov (.t 6)), .none⟩, ⟨(.some 2), (.mov (.t 35)), .none⟩, ⟨(.some 0), (.mov (.t 36)), .none⟩]))))))))) (.seq (.reg .false [⟨(.some 37), (.mov (.t 2)), .none⟩, ⟨(.some 2), (.mov (.t 37)), .none⟩, ⟨(.some 3), (.mov (.c (.int .i64 0))), .none⟩, ⟨(.some 4), (.mov (.c (.int .i64 0))), .none⟩]) .ret))), [(.tmp (.t 2)), (.tmp (.t 3)), (.tmp (.t 4))]⟩
theorem e10 : cfn Tryd.prog Tryd.f10 = some c10 := by kernel_rfl
theorem k10 : callable Tryd.prog 10 = true := by kernel_rfl
def c11 : VFn := ⟨73, (.seq (.reg .false [⟨(.some 2), (.mov (.c .nils)), .none⟩, ⟨(.some 3), (.mov (.c (.int .i64 0))), .none⟩, ⟨(.some 4), (.mov (.c (.int .i64 0))), .none⟩]) (.seq (.reg .false [⟨(.some 5), (.mov (.c .nils)), .none⟩]) (.seq (.reg .false [⟨(.some 13), (.mov (.t 0)), .none⟩, ⟨(.some 14), (.call (.c (.fn 26 [])) [(.t 13), (.c (.int .u8 10))]), .none⟩, ⟨(.some 6), (.mov (.t 14)), .none⟩]) (.seq (.seq (.reg .false [⟨(.some 7), (.mov (.c (.int .i64 0))), .none⟩]) (.block 0 (.loop (.seq (.seq (.reg .false [⟨(.some 15), (.mov (.t 7)), .none⟩, ⟨(.some 16), (.mov (.t 6)), .none⟩, ⟨(.some 17), (.len .false (.t 16)), .none⟩, ⟨(.some 18), (.bin .sub (.t 17) (.c (.int .i64 1))), .none⟩, ⟨(.some 19), (.bin .lss (.t 15) (.t 18)), .none⟩]) (.cond (.t 19) .skip (.exit 0))) (.seq (.block 1 (.seq (.reg .false [⟨(.some 22), (.mov (.t 6)), .none⟩, ⟨(.some 23), (.mov (.t 7)), .none⟩, ⟨(.some 24), (.idxA 1 (.t 22) (.t 23)), .none⟩, ⟨(.some 25), (.load .false 1 (.t 24)), .none⟩, ⟨(.some 26), (.call (.c (.fn 26 [])) [(.t 25), (.c (.int .u8 32))]), .none⟩, ⟨(.some 8), (.mov (.t 26)), .none⟩]) (.seq (.seq (.reg .false [⟨(.some 27), (.mov (.t 8)), .none⟩, ⟨(.some 28), (.len .false (.t 27)), .none⟩, ⟨(.some 29), (.bin .neq (.t 28) (.c (.int .i64 4))), .none⟩]) (.cond (.t 29) (.seq (.reg .false [⟨(.some 30), (.mov (.t 7)), .none⟩, ⟨(.some 31), (.bin .add (.t 30) (.c (.int .i64 1))), .none⟩, ⟨(.some 2), (.mov (.c .nils)), .none⟩, ⟨(.some 3), (.mov (.t 31)), .none⟩, ⟨(.some 4), (.mov (.c (.int .i64 1))), .none⟩]) .ret) .skip)) (.seq (.reg .false [⟨(.some 9), (.alloc 53 4 (.agg [(.int .i64 0), (.int .i64 0), (.int .i64 0), (.int .i64 0)])), .none⟩]) (.seq (.seq (.reg .false [⟨(.some 10), (.mov (.c (.int .i64 0))), .none⟩]) (.block 2 (.loop (.seq (.seq (.reg .false [⟨(.some 32), (.mov (.t 10)), .none⟩, ⟨(.some 33), (.bin .lss (.t 32) (.c (.int .i64 4))), .none⟩]) (.cond (.t 33) .skip (.exit 2))) (.seq (.block 3 (.seq (.reg .false [⟨(.some 37), (.mov (.t 8)), .none⟩, ⟨(.some 38), (.mov (.t 10)), .none⟩, ⟨(.some 39), (.idxA 1 (.t 37) (.t 38)), .none⟩, ⟨(.some 40), (.load .false 1 (.t 39)), .none⟩, ⟨(.some 41), (.call (.c (.fn 27 [])) [(.t 40)]), .none⟩, ⟨(.some 36), (.mov (.t 41)), .none⟩, ⟨(.some 42), (.ext 0 (.t 36)), .none⟩, ⟨(.some 43), (.ext 1 (.t 36)), .none⟩, ⟨(.some 11), (.mov (.t 42)), .none⟩, ⟨(.some 12), (.mov (.t 43)), .none⟩]) (.seq (.seq (.reg .false [⟨(.some 44), (.mov (.t 12)), .none⟩, ⟨(.some 45), (.not (.t 44)), .none⟩]) (.cond (.t 45) (.seq (.reg .false [⟨(.some 46), (.mov (.t 7)), .none⟩, ⟨(.some 47), (.bin .add (.t 46) (.c (.int .i64 1))), .none⟩, ⟨(.some 2), (.mov (.c .nils)), .none⟩, ⟨(.some 3), (.mov (.t 47)), .none⟩, ⟨(.some 4), (.mov (.c (.int .i64 1))), .none⟩]) .ret) .skip)) (.reg .false [⟨(.some 48), (.mov (.t 10)), .none⟩, ⟨(.some 49), (.mov (.t 11)), .none⟩, ⟨(.some 50), (.idxAA .false 4 1 (.t 9) (.t 48)), .none⟩, ⟨.none, (.store 1 (.t 50) (.t 49)), .none⟩])))) (.reg .false [⟨(.some 34), (.mov (.t 10)), .none⟩, ⟨(.some 35), (.bin .add (.t 34) (.c (.int .i64 1))), .none⟩, ⟨(.some 10), (.mov (.t 35)), .none⟩])))))) (.reg .false [⟨(.some 51), (.mov (.t 5)), .none⟩, ⟨(.some 52), (.idxAA .false 4 1 (.t 9) (.c (.int .i64 0))), .none⟩, ⟨(.some 53), (.load .false 1 (.t 52)), .none⟩, ⟨(.some 54), (.idxAA .false 4 1 (.t 9) (.c (.int .i64 1))), .none⟩, ⟨(.some 55), (.load .false 1 (.t 54)), .none⟩, ⟨(.some 56), (.idxAA .false 4 1 (.t 9) (.c (.int .i64 2))), .none⟩, ⟨(.some 57), (.load .false 1 (.t 56)), .none⟩, ⟨(.some 58), (.idxAA .false 4 1 (.t 9) (.c (.int .i64 3))), .none⟩, ⟨(.some 59), (.load .false 1 (.t 58)), .none⟩, ⟨(.some 60), (.build [(.int .i64 0), (.int .i64 0), (.int .i64 0), (.int .i64 0)] [(0, (1, (.t 53))), (1, (1, (.t 55))), (2, (1, (.t 57))), (3, (1, (.t 59)))]), .none⟩, ⟨(.some 61), (.bslice 24 4 [(.t 60)]), .none⟩, ⟨(.some 62), (.append 24 4 32 (.t 51) (.t 61)), .none⟩, ⟨(.some 5), (.mov (.t 62)), .none⟩])))))) (.reg .false [⟨(.some 20), (.mov (.t 7)), .none⟩, ⟨(.some 21), (.bin .add (.t 20) (.c (.int .i64 1))), .none⟩, ⟨(.some 7), (.mov (.t 21)), .none⟩])))))) (.seq (.seq (.reg .false [⟨(.some 63), (.mov (.t 6)), .none⟩, ⟨(.some 64), (.mov (.t 6)), .none⟩, ⟨(.some 65), (.len .false (.t 64)), .none⟩, ⟨(.some 66), (.bin .sub (.t 65) (.c (.int .i64 1))), .none⟩, ⟨(.some 67), (.idxA 1 (.t 63) (.t 66)), .none⟩, ⟨(.some 68), (.load .false 1 (.t 67)), .none⟩, ⟨(.some 69), (.bin .neq (.t 68) (.c (.str []))), .none⟩]) (.cond (.t 69) (.seq (.reg .false [⟨(.some 70), (.mov (.t 6)), .none⟩, ⟨(.some 71), (.len .false (.t 70)), .none⟩, ⟨(.some 2), (.mov (.c .nils)), .none⟩, ⟨(.some 3), (.mov (.t 71)), .none⟩, ⟨(.some 4), (.mov (.c (.int .i64 1))), .none⟩]) .ret) .skip)) (.seq (.reg .false [⟨(.some 72), (.mov (.t 5)), .none⟩, ⟨(.some 2), (.mov (.t 72)), .none⟩, ⟨(.some 3), (.mov (.c (.int .i64 0))), .none⟩, ⟨(.some 4), (.mov (.c (.int .i64 0))), .none⟩]) .ret)))))), [(.tmp (.t 2)), (.tmp (.t 3)), (.tmp (.t 4))]⟩
theorem e11 : cfn Tryd.prog Tryd.f11 = some c11 := by kernel_rfl
theorem k11 : callable Tryd.prog 11 = true := by kernel_rfl
def c12 : VFn := ⟨87, (.seq (.reg .false [⟨(.some 2), (.alloc 27 6 (.agg [(.int .i64 0), (.int .i64 0), (.int .i64 0), (.int .i64 0), (.int .i64 0), (.int .i64 0)])), .none⟩]) (.seq (.reg .false [⟨(.some 7), (.mov (.t 0)), .none⟩, ⟨(.some 8), (.len .false (.t 7)), .none⟩, ⟨(.some 9), (.build [(.int .i64 0), (.int .i64 0), (.int .i64 0), (.int .i64 0), (.int .i64 0), (.int .i64 0)] [(0, (1, (.t 8))), (4, (1, (.c (.int .i64 (-1))))), (5, (1, (.c (.int .i64 (-1)))))]), .none⟩, ⟨(.some 3), (.alloc 27 6 (.agg [(.int .i64 0), (.int .i64 0), (.int .i64 0), (.int .i64 0), (.int .i64 0), (.int .i64 0)])), .none⟩, ⟨.none, (.store 6 (.t 3) (.t 9)), .none⟩]) (.seq (.reg .false [⟨(.some 4), (.mov (.c .nils)), .none⟩, ⟨(.some 5), (.mov (.c .nils)), .none⟩]) (.seq (.seq (.reg .false [⟨(.some 6), (.mov (.c (.int .i64 0))), .none⟩]) (.block 0 (.loop (.seq (.seq (.reg .false [⟨(.some 10), (.mov (.t 6)), .none⟩, ⟨(.some 11), (.mov (.t 0)), .none⟩, ⟨(.some 12), (.len .false (.t 11)), .none⟩, ⟨(.some 13), (.bin .lss (.t 10) (.t 12)), .none⟩]) (.cond (.t 13) .skip (.exit 0))) (.seq (.block 1 (.seq (.reg .false [⟨(.some 16), (.mov (.t 4)), .none⟩, ⟨(.some 17), (.mov (.t 0)), .none⟩, ⟨(.some 18), (.mov (.t 6)), .none⟩, ⟨(.some 19), (.idxA 4 (.t 17) (.t 18)), .none⟩, ⟨(.some 20), (.fldA .false 2 1 (.t 19)), .none⟩, ⟨(.some 21), (.load .false 1 (.t 20)), .none⟩, ⟨(.some 22), (.bslice 3 1 [(.t 21)]), .none⟩, ⟨(.some 23), (.append 3 1 8 (.t 16) (.t 22)), .none⟩, ⟨(.some 4), (.mov (.t 23)), .none⟩]) (.seq (.reg .false [⟨(.some 24), (.mov (.t 5)), .none⟩, ⟨(.some 25), (.mov (.t 0)), .none⟩, ⟨(.some 26), (.mov (.t 6)), .none⟩, ⟨(.some 27), (.idxA 4 (.t 25) (.t 26)), .none⟩, ⟨(.some 28), (.fldA .false 3 1 (.t 27)), .none⟩, ⟨(.some 29), (.load .false 1 (.t 28)), .none⟩, ⟨(.some 30), (.bslice 3 1 [(.t 29)]), .none⟩, ⟨(.some 31), (.append 3 1 8 (.t 24) (.t 30)), .none⟩, ⟨(.some 5), (.mov (.t 31)), .none⟩]) (.seq (.seq (.reg .false [⟨(.some 32), (.mov (.t 0)), .none⟩, ⟨(.some 33), (.mov (.t 6)), .none⟩, ⟨(.some 34), (.idxA 4 (.t 32) (.t 33)), .none⟩, ⟨(.some 35), (.fldA .false 1 1 (.t 34)), .none⟩, ⟨(.some 36), (.load .false 1 (.t 35)), .none⟩, ⟨(.some 37), (.bin .eql (.t 36) (.c (.int .i64 3))), .none⟩]) (.cond (.t 37) (.seq (.reg .false [⟨(.some 38), (.fldA .false 1 1 (.t 3)), .none⟩, ⟨(.some 39), (.load .false 1 (.t 38)), .none⟩, ⟨(.some 40), (.bin .add (.t 39) (.c (.int .i64 1))), .none⟩, ⟨(.some 41), (.fldA .false 1 1 (.t 3)), .none⟩, ⟨.none, (.store 1 (.t 41) (.t 40)), .none⟩]) (.exit 1)) .skip)) (.seq (.seq (.reg .true [⟨(.some 42), (.fldA .false 4 1 (.t 3)), .none⟩, ⟨(.some 43), (.load .false 1 (.t 42)), .none⟩, ⟨(.some 44), (.bin .lss (.t 43) (.c (.int .i64 0))), .none⟩, ⟨(.some 45), (.mov (.t 44)), .none⟩, ⟨(.some 46), (.mov (.t 0)), (.some ((.t 45), .false))⟩, ⟨(.some 47), (.mov (.t 6)), (.some ((.t 45), .false))⟩, ⟨(.some 48), (.idxA 4 (.t 46) (.t 47)), (.some ((.t 45), .false))⟩, ⟨(.some 49), (.fldA .false 2 1 (.t 48)), (.some ((.t 45), .false))⟩, ⟨(.some 50), (.load .false 1 (.t 49)), (.some ((.t 45), .false))⟩, ⟨(.some 51), (.mov (.t 0)), (.some ((.t 45), .false))⟩, ⟨(.some 52), (.fldA .false 4 1 (.t 3)), (.some ((.t 45), .false))⟩, ⟨(.some 53), (.load .false 1 (.t 52)), (.some ((.t 45), .false))⟩, ⟨(.some 54), (.idxA 4 (.t 51) (.t 53)), (.some ((.t 45), .false))⟩, ⟨(.some 55), (.fldA .false 2 1 (.t 54)), (.some ((.t 45), .false))⟩, ⟨(.some 56), (.load .false 1 (.t 55)), (.some ((.t 45), .false))⟩, ⟨(.some 57), (.bin .gtr (.t 50) (.t 56)), (.some ((.t 45), .false))⟩, ⟨(.some 58), (.pick (.t 45) (.c (.bool .true)) (.t 57)), .none⟩]) (.cond (.t 58) (.reg .false [⟨(.some 59), (.mov (.t 6)), .none⟩, ⟨(.some 60), (.fldA .false 4 1 (.t 3)), .none⟩, ⟨.none, (.store 1 (.t 60) (.t 59)), .none⟩]) .skip)) (.seq (.reg .true [⟨(.some 61), (.fldA .false 5 1 (.t 3)), .none⟩, ⟨(.some 62), (.load .false 1 (.t 61)), .none⟩, ⟨(.some 63), (.bin .lss (.t 62) (.c (.int .i64 0))), .none⟩, ⟨(.some 64), (.mov (.t 63)), .none⟩, ⟨(.some 65), (.mov (.t 0)), (.some ((.t 64), .false))⟩, ⟨(.some 66), (.mov (.t 6)), (.some ((.t 64), .false))⟩, ⟨(.some 67), (.idxA 4 (.t 65) (.t 66)), (.some ((.t 64), .false))⟩, ⟨(.some 68), (.fldA .false 2 1 (.t 67)), (.some ((.t 64), .false))⟩, ⟨(.some 69), (.load .false 1 (.t 68)), (.some ((.t 64), .false))⟩, ⟨(.some 70), (.mov (.t 0)), (.some ((.t 64), .false))⟩, ⟨(.some 71), (.fldA .false 5 1 (.t 3)), (.some ((.t 64), .false))⟩, ⟨(.some 72), (.load .false 1 (.t 71)), (.some ((.t 64), .false))⟩, ⟨(.some 73), (.idxA 4 (.t 70) (.t 72)), (.some ((.t 64), .false))⟩, ⟨(.some 74), (.fldA .false 2 1 (.t 73)), (.some ((.t 64), .false))⟩, ⟨(.some 75), (.load .false 1 (.t 74)), (.some ((.t 64), .false))⟩, ⟨(.some 76), (.bin .lss (.t 69) (.t 75)), (.some ((.t 64), .false))⟩, ⟨(.some 77), (.pick (.t 64) (.c (.bool .true)) (.t 76)), .none⟩]) (.cond (.t 77) (.reg .false [⟨(.some 78), (.mov (.t 6)), .none⟩, ⟨(.some 79), (.fldA .false 5 1 (.t 3)), .none⟩, ⟨.none, (.store 1 (.t 79) (.t 78)), .none⟩]) .skip))))))) (.reg .false [⟨(.some 14), (.mov (.t 6)), .none⟩, ⟨(.some 15), (.bin .add (.t 14) (.c (.int .i64 1))), .none⟩, ⟨(.some 6), (.mov (.t 15)), .none⟩])))))) (.seq (.reg .false [⟨(.some 80), (.mov (.t 4)), .none⟩, ⟨(.some 81), (.call (.c (.fn 28 [])) [(.t 80)]), .none⟩, ⟨(.some 82), (.fldA .false 2 1 (.t 3)), .none⟩, ⟨.none, (.store 1 (.t 82) (.t 81)), .none⟩]) (.seq (.reg .false [⟨(.some 83), (.mov (.t 5)), .none⟩, ⟨(.some 84), (.call (.c (.fn 28 [])) [(.t 83)]), .none⟩, ⟨(.some 85), (.fldA .false 3 1 (.t 3)), .none⟩, ⟨.none, (.store 1 (.t 85) (.t 84)), .none⟩]) (.seq (.reg .false [⟨(.some 86), (.load .true 6 (.t 3)), .none⟩, ⟨.none, (.store 6 (.t 2) (.t 86)), .none⟩]) .ret))))))), [(.cell .true 6 (.t 2))]⟩
theorem e12 : cfn Tryd.prog Tryd.f12 = some c12 := by kernel_rfl
theorem k12 : callable Tryd.prog 12 = true := by kernel_rfl
def c13 : VFn := ⟨26, (.seq (.reg .false [⟨(.some 4), (.mov (.c (.bool .false))), .none⟩]) (.seq (.seq (.reg .false [⟨(.some 6), (.mov (.t 0)), .none⟩, ⟨(.some 7), (.len .false (.t 6)), .none⟩, ⟨(.some 8), (.mov (.t 1)), .none⟩, ⟨(.some 9), (.len .false (.t 8)), .none⟩, ⟨(.some 10), (.bin .neq (.t 7) (.t 9)), .none⟩]) (.cond (.t 10) (.seq (.reg .false [⟨(.some 4), (.mov (.c (.bool .false))), .none⟩]) .ret) .skip)) (.seq (.seq (.reg .false [⟨(.some 5), (.mov (.c (.int .i64 0))), .none⟩]) (.block 0 (.loop (.seq (.seq (.reg .false [⟨(.some 11), (.mov (.t 5)), .none⟩, ⟨(.some 12), (.mov (.t 0)), .none⟩, ⟨(.some 13), (.len .false (.t 12)), .none⟩, ⟨(.some 14), (.bin .lss (.t 11) (.t 13)), .none⟩]) (.cond (.t 14) .skip (.exit 0))) (.seq (.block 1 (.seq (.reg .true [⟨(.some 17), (.mov (.t 0)), .none⟩, ⟨(.some 18), (.mov (.t 5)), .none⟩, ⟨(.some 19), (.idxA 4 (.t 17) (.t 18)), .none⟩, ⟨(.some 20), (.load .true 4 (.t 19)), .none⟩, ⟨(.some 21), (.mov (.t 1)), .none⟩, ⟨(.some 22), (.mov (.t 5)), .none⟩, ⟨(.some 23), (.idxA 4 (.t 21) (.t 22)), .none⟩, ⟨(.some 24), (.load .true 4 (.t 23)), .none⟩, ⟨(.some 25), (.eqS .true [0, 0, 0, 0] (.t 20) (.t 24)), .none⟩]) (.cond (.t 25) (.seq (.reg .false [⟨(.some 4), (.mov (.c (.bool .false))), .none⟩]) .ret) .skip))) (.reg .false [⟨(.some 15), (.mov (.t 5)), .none⟩, ⟨(.some 16), (.bin .add (.t 15) (.c (.int .i64 1))), .none⟩, ⟨(.some 5), (.mov (.t 16)), .none⟩])))))) (.seq (.reg .false [⟨(.some 4), (.mov (.c (.bool .true))), .none⟩]) .ret)))), [(.tmp (.t 4))]⟩
theorem e13 : cfn Tryd.prog Tryd.f13 = some c13 := by kernel_rfl
theorem k13 : callable Tryd.prog 13 = true := by kernel_rfl
def c14 : VFn := ⟨27, (.seq (.reg .false [⟨(.some 2), (.box 42 5 (.t 0)), .none⟩, ⟨(.some 4), (.alloc 24 4 (.agg [(.int .i64 0), (.int .i64 0), (.int .i64 0), (.int .i64 0)])), .none⟩]) (.seq (.reg .false [⟨(.some 5), (.alloc 3 1 (.int .i64 0)), .none⟩, ⟨.none, (.store 1 (.t 5) (.c (.int .i64 0))), .none⟩]) (.seq (.seq (.reg .false [⟨(.some 7), (.load .true 5 (.t 2)), .none⟩, ⟨(.some 8), (.call (.c (.fn 29 [])) [(.t 7)]), .none⟩]) (.block 0 (.rangeF (.t 8) [9] (.reg .false [⟨(.some 6), (.alloc 39 7 (.agg [(.int .i64 0), (.int .i64 0), (.int .i64 0), (.int .i64 0), (.int .i64 0), (.int .i64 0), (.int .i64 0)])), .none⟩, ⟨.none, (.store 7 (.t 6) (.t 9)), .none⟩]) (.block 1 (.reg .true [⟨(.some 10), (.load .false 1 (.t 5)), .none⟩, ⟨(.some 11), (.fldA .false 4 1 (.t 6)), .none⟩, ⟨(.some 12), (.load .false 1 (.t 11)), .none⟩, ⟨(.some 13), (.fldA .false 6 1 (.t 6)), .none⟩, ⟨(.some 14), (.load .false 1 (.t 13)), .none⟩, ⟨(.some 15), (.bslice 3 1 [(.t 12), (.t 14)]), .none⟩, ⟨(.some 16), (.call (.c (.fn 30 [])) [(.t 15)]), .none⟩, ⟨(.some 17), (.minmax .true (.t 10) (.t 16)), .none⟩, ⟨.none, (.store 1 (.t 5) (.t 17)), .none⟩]))))) (.seq (.reg .true [⟨(.some 18), (.fldA .false 0 1 (.t 2)), .none⟩, ⟨(.some 19), (.load .false 1 (.t 18)), .none⟩, ⟨(.some 20), (.fldA .false 1 1 (.t 2)), .none⟩, ⟨(.some 21), (.load .false 1 (.t 20)), .none⟩, ⟨(.some 22), (.load .false 1 (.t 5)), .none⟩, ⟨(.some 23), (.mov (.t 1)), .none⟩, ⟨(.some 24), (.load .false 1 (.t 5)), .none⟩, ⟨(.some 25), (.call (.c (.fn 31 [])) [(.t 23), (.t 24)]), .none⟩, ⟨(.some 26), (.build [(.int .i64 0), (.int .i64 0), (.int .i64 0), (.int .i64 0)] [(0, (1, (.t 19))), (1, (1, (.t 21))), (2, (1, (.t 22))), (3, (1, (.t 25)))]), .none⟩, ⟨.none, (.store 4 (.t 4) (.t 26)), .none⟩]) .ret)))), [(.cell .true 4 (.t 4))]⟩
theorem e14 : cfn Tryd.prog Tryd.f14 = some c14 := by kernel_rfl
theorem k14 : callable Tryd.prog 14 = true := by kernel_rfl
def c15 : VFn := ⟨37, (.seq (.reg .false [⟨(.some 2), (.mov (.c .nils)), .none⟩]) (.seq (.reg .false [⟨(.some 3), (.mov (.c .nils)), .none⟩]) (.seq (.seq (.reg .false [⟨(.some 4), (.mov (.c (.int .i64 0))), .none⟩]) (.block 0 (.loop (.seq (.seq (.reg .false [⟨(.some 6), (.mov (.t 4)), .none⟩, ⟨(.some 7), (.mov (.t 0)), .none⟩, ⟨(.some 8), (.len .false (.t 7)), .none⟩, ⟨(.some 9), (.bin .lss (.t 6) (.t 8)), .none⟩]) (.cond (.t 9) .skip (.exit 0))) (.seq (.block 1 (.seq (.reg .true [⟨(.some 12), (.mov (.t 4)), .none⟩, ⟨(.some 13), (.bin .add (.t 12) (.c (.int .i64 1))), .none⟩, ⟨(.some 14), (.mov (.t 0)), .none⟩, ⟨(.some 15), (.mov (.t 4)), .none⟩, ⟨(.some 16), (.idxA 1 (.t 14) (.t 15)), .none⟩, ⟨(.some 17), (.load .false 1 (.t 16)), .none⟩, ⟨(.some 18), (.mov (.t 0)), .none⟩, ⟨(.some 19), (.mov (.t 4)), .none⟩, ⟨(.some 20), (.idxA 1 (.t 18) (.t 19)), .none⟩, ⟨(.some 21), (.load .false 1 (.t 20)), .none⟩, ⟨(.some 22), (.bin .sub (.c (.int .i64 10)) (.t 21)), .none⟩, ⟨(.some 23), (.build [(.int .i64 0), (.int .i64 0), (.int .i64 0), (.int .i64 0)] [(0, (1, (.t 13))), (1, (1, (.c (.int .i64 1)))), (2, (1, (.t 17))), (3, (1, (.t 22)))]), .none⟩, ⟨(.some 5), (.alloc 24 4 (.agg [(.int .i64 0), (.int .i64 0), (.int .i64 0), (.int .i64 0)])), .none⟩, ⟨.none, (.store 4 (.t 5) (.t 23)), .none⟩]) (.seq (.seq (.reg .false [⟨(.some 24), (.mov (.t 0)), .none⟩, ⟨(.some 25), (.mov (.t 4)), .none⟩, ⟨(.some 26), (.idxA 1 (.t 24) (.t 25)), .none⟩, ⟨(.some 27), (.load .false 1 (.t 26)), .none⟩, ⟨(.some 28), (.bin .eql (.t 27) (.c (.int .i64 0))), .none⟩]) (.cond (.t 28) (.reg .false [⟨(.some 29), (.mov (.t 4)), .none⟩, ⟨(.some 30), (.bin .add (.t 29) (.c (.int .i64 1))), .none⟩, ⟨(.some 31), (.build [(.int .i64 0), (.int .i64 0), (.int .i64 0), (.int .i64 0)] [(0, (1, (.t 30))), (1, (1, (.c (.int .i64 3)))), (3, (1, (.c (.int .i64 10))))]), .none⟩, ⟨.none, (.store 4 (.t 5) (.t 31)), .none⟩]) .skip)) (.reg .false [⟨(.some 32), (.mov (.t 3)), .none⟩, ⟨(.some 33), (.load .true 4 (.t 5)), .none⟩, ⟨(.some 34), (.bslice 24 4 [(.t 33)]), .none⟩, ⟨(.some 35), (.append 24 4 32 (.t 32) (.t 34)), .none⟩, ⟨(.some 3), (.mov (.t 35)), .none⟩])))) (.reg .false [⟨(.some 10), (.mov (.t 4)), .none⟩, ⟨(.some 11), (.bin .add (.t 10) (.c (.int .i64 1))), .none⟩, ⟨(.some 4), (.mov (.t 11)), .none⟩])))))) (.seq (.reg .false [⟨(.some 36), (.mov (.t 3)), .none⟩, ⟨(.some 2), (.mov (.t 36)), .none⟩]) .ret)))), [(.tmp (.t 2))]⟩
theorem e15 : cfn Tryd.prog Tryd.f15 = some c15 := by kernel_rfl
theorem k15 : callable Tryd.prog 15 = true := by kernel_rfl
def c16 : VFn := ⟨103, (.seq (.reg .false [⟨(.some 5), (.box 24 4 (.t 2)), .none⟩]) (.seq (.reg .false [⟨(.some 6), (.mov (.t 0)), .none⟩, ⟨(.some 7), (.nilCheck (.t 6)), .none⟩, ⟨(.some 8), (.fldA .true 0 6 (.t 7)), .none⟩, ⟨(.some 9), (.fldA .false 0 1 (.t 8)), .none⟩, ⟨(.some 10), (.load .false 1 (.t 9)), .none⟩, ⟨(.some 11), (.bin .add (.t 10) (.c (.int .i64 1))), .none⟩, ⟨(.some 12), (.nilCheck (.t 6)), .none⟩, ⟨(.some 13), (.fldA .true 0 6 (.t 12)), .none⟩, ⟨(.some 14), (.fldA .false 0 1 (.t 13)), .none⟩, ⟨.none, (.store 1 (.t 14) (.t 11)), .none⟩]) (.seq (.reg .true [⟨(.some 15), (.mov (.t 0)), .none⟩, ⟨(.some 16), (.mov (.t 0)), .none⟩, ⟨(.some 17), (.mov (.t 0)), .none⟩, ⟨(.some 18), (.nilCheck (.t 17)), .none⟩, ⟨(.some 19), (.fldA .true 0 6 (.t 18)), .none⟩, ⟨(.some 20), (.fldA .false 2 1 (.t 19)), .none⟩, ⟨(.some 21), (.load .false 1 (.t 20)), .none⟩, ⟨(.some 22), (.fldA .false 2 1 (.t 5)), .none⟩, ⟨(.some 23), (.load .false 1 (.t 22)), .none⟩, ⟨(.some 24), (.bslice 3 1 [(.t 21), (.t 23)]), .none⟩, ⟨(.some 25), (.call (.c (.fn 30 [])) [(.t 24)]), .none⟩, ⟨(.some 26), (.mov (.t 0)), .none⟩, ⟨(.some 27), (.nilCheck (.t 26)), .none⟩, ⟨(.some 28), (.fldA .true 0 6 (.t 27)), .none⟩, ⟨(.some 29), (.fldA .false 3 1 (.t 28)), .none⟩, ⟨(.some 30), (.load .false 1 (.t 29)), .none⟩, ⟨(.some 31), (.fldA .false 3 1 (.t 5)), .none⟩, ⟨(.some 32), (.load .false 1 (.t 31)), .none⟩, ⟨(.some 33), (.bslice 3 1 [(.t 30), (.t 32)]), .none⟩, ⟨(.some 34), (.call (.c (.fn 30 [])) [(.t 33)]), .none⟩, ⟨(.some 35), (.nilCheck (.t 15)), .none⟩, ⟨(.some 36), (.fldA .true 0 6 (.t 35)), .none⟩, ⟨(.some 37), (.fldA .false 2 1 (.t 36)), .none⟩, ⟨.none, (.store 1 (.t 37) (.t 25)), .none⟩, ⟨(.some 38), (.nilCheck (.t 16)), .none⟩, ⟨(.some 39), (.fldA .true 0 6 (.t 38)), .none⟩, ⟨(.some 40), (.fldA .false 3 1 (.t 39)), .none⟩, ⟨.none, (.store 1 (.t 40) (.t 34)), .none⟩]) (.seq (.seq (.reg .false [⟨(.some 41), (.fldA .false 1 1 (.t 5)), .none⟩, ⟨(.some 42), (.load .false 1 (.t 41)), .none⟩, ⟨(.some 43), (.bin .eql (.t 42) (.c (.int .i64 3))), .none⟩]) (.cond (.t 43) (.seq (.reg .false [⟨(.some 44), (.mov (.t 0)), .none⟩, ⟨(.some 45), (.nilCheck (.t 44)), .none⟩, ⟨(.some 46), (.fldA .true 0 6 (.t 45)), .none⟩, ⟨(.some 47), (.fldA .false 1 1 (.t 46)), .none⟩, ⟨(.some 48), (.load .false 1 (.t 47)), .none⟩, ⟨(.some 49), (.bin .add (.t 48) (.c (.int .i64 1))), .none⟩, ⟨(.some 50), (.nilCheck (.t 44)), .none⟩, ⟨(.some 51), (.fldA .true 0 6 (.t 50)), .none⟩, ⟨(.some 52), (.fldA .false 1 1 (.t 51)), .none⟩, ⟨.none, (.store 1 (.t 52) (.t 49)), .none⟩]) .ret) .skip)) (.seq (.seq (.reg .true [⟨(.some 53), (.mov (.t 0)), .none⟩, ⟨(.some 54), (.nilCheck (.t 53)), .none⟩, ⟨(.some 55), (.fldA .true 0 6 (.t 54)), .none⟩, ⟨(.some 56), (.fldA .false 4 1 (.t 55)), .none⟩, ⟨(.some 57), (.load .false 1 (.t 56)), .none⟩, ⟨(.some 58), (.bin .lss (.t 57) (.c (.int .i64 0))), .none⟩, ⟨(.some 59), (.mov (.t 58)), .none⟩, ⟨(.some 60), (.fldA .false 2 1 (.t 5)), (.some ((.t 59), .false))⟩, ⟨(.some 61), (.load .false 1 (.t 60)), (.some ((.t 59), .false))⟩, ⟨(.some 62), (.mov (.t 0)), (.some ((.t 59), .false))⟩, ⟨(.some 63), (.nilCheck (.t 62)), (.some ((.t 59), .false))⟩, ⟨(.some 64), (.fldA .false 6 1 (.t 63)), (.some ((.t 59), .false))⟩, ⟨(.some 65), (.load .false 1 (.t 64)), (.some ((.t 59), .false))⟩, ⟨(.some 66), (.bin .gtr (.t 61) (.t 65)), (.some ((.t 59), .false))⟩, ⟨(.some 67), (.pick (.t 59) (.c (.bool .true)) (.t 66)), .none⟩]) (.cond (.t 67) (.regA [⟨(.some 68), (.mov (.t 0)), .none⟩, ⟨(.some 69), (.mov (.t 0)), .none⟩, ⟨(.some 70), (.mov (.t 1)), .none⟩, ⟨(.some 71), (.fldA .false 2 1 (.t 5)), .none⟩, ⟨(.some 72), (.load .false 1 (.t 71)), .none⟩, ⟨(.some 73), (.nilCheck (.t 68)), .none⟩, ⟨(.some 74), (.fldA .true 0 6 (.t 73)), .none⟩, ⟨(.some 75), (.fldA .false 4 1 (.t 74)), .none⟩, ⟨.none, (.store 1 (.t 75) (.t 70)), .none⟩, ⟨(.some 76), (.nilCheck (.t 69)), .none⟩, ⟨(.some 77), (.fldA .false 6 1 (.t 76)), .none⟩, ⟨.none, (.store 1 (.t 77) (.t 72)), .none⟩] [[], [], [], [], [3], [0, 0, 2], [5, 0, 2], [6, 0, 2], [7, 2, 0, 2], [1, 0, 1, 2, 3, 4, 5, 6, 7, 8], [9, 0, 1, 2, 3, 4, 5, 6, 7, 8], [10, 4, 8, 0, 1, 2, 3, 4, 5, 6, 7, 8]]) .skip)) (.seq (.reg .true [⟨(.some 78), (.mov (.t 0)), .none⟩, ⟨(.some 79), (.nilCheck (.t 78)), .none⟩, ⟨(.some 80), (.fldA .true 0 6 (.t 79)), .none⟩, ⟨(.some 81), (.fldA .false 5 1 (.t 80)), .none⟩, ⟨(.some 82), (.load .false 1 (.t 81)), .none⟩, ⟨(.some 83), (.bin .lss (.t 82) (.c (.int .i64 0))), .none⟩, ⟨(.some 84), (.mov (.t 83)), .none⟩, ⟨(.some 85), (.fldA .false 2 1 (.t 5)), (.some ((.t 84), .false))⟩, ⟨(.some 86), (.load .false 1 (.t 85)), (.some ((.t 84), .false))⟩, ⟨(.some 87), (.mov (.t 0)), (.some ((.t 84), .false))⟩, ⟨(.some 88), (.nilCheck (.t 87)), (.some ((.t 84), .false))⟩, ⟨(.some 89), (.fldA .false 7 1 (.t 88)), (.some ((.t 84), .false))⟩, ⟨(.some 90), (.load .false 1 (.t 89)), (.some ((.t 84), .false))⟩, ⟨(.some 91), (.bin .lss (.t 86) (.t 90)), (.some ((.t 84), .false))⟩, ⟨(.some 92), (.pick (.t 84) (.c (.bool .true)) (.t 91)), .none⟩]) (.cond (.t 92) (.regA [⟨(.some 93), (.mov (.t 0)), .none⟩, ⟨(.some 94), (.mov (.t 0)), .none⟩, ⟨(.some 95), (.mov (.t 1)), .none⟩, ⟨(.some 96), (.fldA .false 2 1 (.t 5)), .none⟩, ⟨(.some 97), (.load .false 1 (.t 96)), .none⟩, ⟨(.some 98), (.nilCheck (.t 93)), .none⟩, ⟨(.some 99), (.fldA .true 0 6 (.t 98)), .none⟩, ⟨(.some 100), (.fldA .false 5 1 (.t 99)), .none⟩, ⟨.none, (.store 1 (.t 100) (.t 95)), .none⟩, ⟨(.some 101), (.nilCheck (.t 94)), .none⟩, ⟨(.some 102), (.fldA .false 7 1 (.t 101)), .none⟩, ⟨.none, (.store 1 (.t 102) (.t 97)), .none⟩] [[], [], [], [], [3], [0, 0, 2], [5, 0, 2], [6, 0, 2], [7, 2, 0, 2], [1, 0, 1, 2, 3, 4, 5, 6, 7, 8], [9, 0, 1, 2, 3, 4, 5, 6, 7, 8], [10, 4, 8, 0, 1, 2, 3, 4, 5, 6, 7, 8]]) .skip))))))), []⟩
theorem e16 : cfn Tryd.prog Tryd.f16 = some c16 := by kernel_rfl
theorem k16 : callable Tryd.prog 16 = true := by kernel_rfl
def c17 : VFn := ⟨14, (.seq (.reg .false [⟨(.some 1), (.box 24 4 (.t 0)), .none⟩, ⟨(.some 2), (.mov (.c (.bool .false))), .none⟩]) (.seq (.reg .false [⟨(.some 3), (.fldA .false 0 1 (.t 1)), .none⟩, ⟨(.some 4), (.load .false 1 (.t 3)), .none⟩, ⟨(.some 5), (.fldA .false 1 1 (.t 1)), .none⟩, ⟨(.some 6), (.load .false 1 (.t 5)), .none⟩, ⟨(.some 7), (.fldA .false 2 1 (.t 1)), .none⟩, ⟨(.some 8), (.load .false 1 (.t 7)), .none⟩, ⟨(.some 9), (.fldA .false 3 1 (.t 1)), .none⟩, ⟨(.some 10), (.load .false 1 (.t 9)), .none⟩, ⟨(.some 11), (.bslice 3 1 [(.t 4), (.t 6), (.t 8), (.t 10)]), .none⟩, ⟨(.some 12), (.call (.c (.fn 32 [])) [(.t 11), (.c (.fn 33 []))]), .none⟩, ⟨(.some 13), (.not (.t 12)), .none⟩, ⟨(.some 2), (.mov (.t 13)), .none⟩]) .ret)), [(.tmp (.t 2))]⟩
theorem e17 : cfn Tryd.prog Tryd.f17 = some c17 := by kernel_rfl
theorem k17 : callable Tryd.prog 17 = true := by kernel_rfl
def c22 : VFn := ⟨30, (.seq (.reg .false [⟨(.some 1), (.box 24 4 (.t 0)), .none⟩, ⟨(.some 2), (.mov (.c (.bool .false))), .none⟩]) (.seq (.reg .false [⟨(.some 5), (.fldA .false 0 1 (.t 1)), .none⟩, ⟨(.some 6), (.load .false 1 (.t 5)), .none⟩, ⟨(.some 7), (.fldA .false 1 1 (.t 1)), .none⟩, ⟨(.some 8), (.load .false 1 (.t 7)), .none⟩, ⟨(.some 9), (.fldA .false 2 1 (.t 1)), .none⟩, ⟨(.some 10), (.load .false 1 (.t 9)), .none⟩, ⟨(.some 11), (.fldA .false 3 1 (.t 1)), .none⟩, ⟨(.some 12), (.load .false 1 (.t 11)), .none⟩, ⟨(.some 13), (.bslice 3 1 [(.t 6), (.t 8), (.t 10), (.t 12)]), .none⟩, ⟨(.some 3), (.mov (.t 13)), .none⟩]) (.seq (.seq (.reg .false [⟨(.some 4), (.mov (.c (.int .i64 0))), .none⟩]) (.block 0 (.loop (.seq (.seq (.reg .false [⟨(.some 14), (.mov (.t 4)), .none⟩, ⟨(.some 15), (.mov (.t 3)), .none⟩, ⟨(.some 16), (.len .false (.t 15)), .none⟩, ⟨(.some 17), (.bin .lss (.t 14) (.t 16)), .none⟩]) (.cond (.t 17) .skip (.exit 0))) (.seq (.block 1 (.seq (.reg .true [⟨(.some 20), (.mov (.t 3)), .none⟩, ⟨(.some 21), (.mov (.t 4)), .none⟩, ⟨(.some 22), (.idxA 1 (.t 20) (.t 21)), .none⟩, ⟨(.some 23), (.load .false 1 (.t 22)), .none⟩, ⟨(.some 24), (.call (.c (.fn 37 [])) [(.t 23)]), .none⟩, ⟨(.some 25), (.mov (.t 3)), .none⟩, ⟨(.some 26), (.mov (.t 4)), .none⟩, ⟨(.some 27), (.idxA 1 (.t 25) (.t 26)), .none⟩, ⟨(.some 28), (.load .false 1 (.t 27)), .none⟩, ⟨(.some 29), (.bin .neq (.t 24) (.t 28)), .none⟩]) (.cond (.t 29) (.seq (.reg .false [⟨(.some 2), (.mov (.c (.bool .false))), .none⟩]) .ret) .skip))) (.reg .false [⟨(.some 18), (.mov (.t 4)), .none⟩, ⟨(.some 19), (.bin .add (.t 18) (.c (.int .i64 1))), .none⟩, ⟨(.some 4), (.mov (.t 19)), .none⟩])))))) (.seq (.reg .false [⟨(.some 2), (.mov (.c (.bool .true))), .none⟩]) .ret)))), [(.tmp (.t 2))]⟩
theorem e22 : cfn Tryd.prog Tryd.f22 = some c22 := by kernel_rfl
theorem k22 : callable Tryd.prog 22 = true := by kernel_rfl
def c23 : VFn := ⟨24, (.seq (.reg .false [⟨(.some 2), (.mov (.c (.str []))), .none⟩]) (.seq (.seq (.reg .false [⟨(.some 4), (.mov (.t 0)), .none⟩, ⟨(.some 5), (.bin .lss (.t 4) (.c (.int .i64 0))), .none⟩]) (.cond (.t 5) (.seq (.reg .false [⟨(.some 6), (.mov (.t 0)), .none⟩, ⟨(.some 7), (.neg (.t 6)), .none⟩, ⟨(.some 8), (.call (.c (.fn 23 [])) [(.t 7)]), .none⟩, ⟨(.some 9), (.bin .add (.c (.str [45])) (.t 8)), .none⟩, ⟨(.some 2), (.mov (.t 9)), .none⟩]) .ret) .skip)) (.seq (.reg .false [⟨(.some 10), (.mov (.t 0)), .none⟩, ⟨(.some 11), (.bin .rem (.t 10) (.c (.int .i64 10))), .none⟩, ⟨(.some 12), (.bin .add (.c (.int .i64 48)) (.t 11)), .none⟩, ⟨(.some 13), (.convI .u8 (.t 12)), .none⟩, ⟨(.some 14), (.bslice 5 1 [(.t 13)]), .none⟩, ⟨(.some 15), (.bstr (.t 14)), .none⟩, ⟨(.some 3), (.mov (.t 15)), .none⟩]) (.seq (.seq (.reg .false [⟨(.some 16), (.mov (.t 0)), .none⟩, ⟨(.some 17), (.bin .gtr (.t 16) (.c (.int .i64 9))), .none⟩]) (.cond (.t 17) (.seq (.reg .false [⟨(.some 18), (.mov (.t 0)), .none⟩, ⟨(.some 19), (.bin .quo (.t 18) (.c (.int .i64 10))), .none⟩, ⟨(.some 20), (.call (.c (.fn 23 [])) [(.t 19)]), .none⟩, ⟨(.some 21), (.mov (.t 3)), .none⟩, ⟨(.some 22), (.bin .add (.t 20) (.t 21)), .none⟩, ⟨(.some 2), (.mov (.t 22)), .none⟩]) .ret) .skip)) (.seq (.reg .false [⟨(.some 23), (.mov (.t 3)), .none⟩, ⟨(.some 2), (.mov (.t 23)), .none⟩]) .ret))))), [(.tmp (.t 2))]⟩
theorem e23 : cfn Tryd.prog Tryd.f23 = some c23 := by kernel_rfl
theorem k23 : callable Tryd.prog 23 = true := by kernel_rfl
def c24 : VFn := ⟨13, (.seq (.reg .false [⟨(.some 4), (.mov (.c (.str []))), .none⟩, ⟨(.some 5), (.mov (.c (.str []))), .none⟩, ⟨(.some 6), (.mov (.c (.bool .false))), .none⟩]) (.seq (.reg .false [⟨(.some 7), (.mov (.t 0)), .none⟩, ⟨(.some 8), (.mov (.t 1)), .none⟩, ⟨(.some 9), (.call (.c (.fn 38 [])) [(.t 7), (.t 8)]), .none⟩, ⟨(.some 10), (.ext 0 (.t 9)), .none⟩, ⟨(.some 11), (.ext 1 (.t 9)), .none⟩, ⟨(.some 12), (.ext 2 (.t 9)), .none⟩, ⟨(.some 4), (.mov (.t 10)), .none⟩, ⟨(.some 5), (.mov (.t 11)), .none⟩, ⟨(.some 6), (.mov (.t 12)), .none⟩]) .ret)), [(.tmp (.t 4)), (.tmp (.t 5)), (.tmp (.t 6))]⟩
theorem e24 : cfn Tryd.prog Tryd.f24 = some c24 := by kernel_rfl
theorem k24 : callable Tryd.prog 24 = true := by kernel_rfl
def c25 : VFn := ⟨54, (.seq (.reg .false [⟨(.some 2), (.alloc 24 4 (.agg [(.int .i64 0), (.int .i64 0), (.int .i64 0), (.int .i64 0)])), .none⟩, ⟨(.some 3), (.mov (.c (.bool .false))), .none⟩]) (.seq (.reg .false [⟨(.some 11), (.mov (.t 0)), .none⟩, ⟨(.some 12), (.call (.c (.fn 39 [])) [(.t 11), (.c (.str [32]))]), .none⟩, ⟨(.some 4), (.mov (.t 12)), .none⟩]) (.seq (.reg .false [⟨(.some 5), (.alloc 53 4 (.agg [(.int .i64 0), (.int .i64 0), (.int .i64 0), (.int .i64 0)])), .none⟩]) (.seq (.seq (.reg .false [⟨(.some 13), (.mov (.t 4)), .none⟩, ⟨(.some 14), (.len .false (.t 13)), .none⟩, ⟨(.some 15), (.bin .neq (.t 14) (.c (.int .i64 4))), .none⟩]) (.cond (.t 15) (.seq (.reg .false [⟨(.some 16), (.build [(.int .i64 0), (.int .i64 0), (.int .i64 0), (.int .i64 0)] []), .none⟩, ⟨.none, (.store 4 (.t 2) (.t 16)), .none⟩, ⟨(.some 3), (.mov (.c (.bool .false))), .none⟩]) .ret) .skip)) (.seq (.seq (.reg .false [⟨(.some 17), (.mov (.t 4)), .none⟩, ⟨(.some 18), (.len .false (.t 17)), .none⟩, ⟨(.some 19), (.mov (.c (.int .i64 0))), .none⟩]) (.block 0 (.loop (.seq (.reg .false [⟨(.some 20), (.bin .lss (.t 19) (.t 18)), .none⟩]) (.seq (.cond (.t 20) .skip (.exit 0)) (.seq (.block 1 (.seq (.reg .false [⟨(.some 21), (.mov (.t 19)), .none⟩, ⟨(.some 22), (.idxA 1 (.t 17) (.t 19)), .none⟩, ⟨(.some 23), (.load .false 1 (.t 22)), .none⟩, ⟨(.some 6), (.mov (.t 21)), .none⟩, ⟨(.some 7), (.mov (.t 23)), .none⟩]) (.seq (.reg .false [⟨(.some 25), (.mov (.t 7)), .none⟩, ⟨(.some 26), (.call (.c (.fn 40 [])) [(.t 25)]), .none⟩, ⟨(.some 24), (.mov (.t 26)), .none⟩, ⟨(.some 27), (.ext 0 (.t 24)), .none⟩, ⟨(.some 28), (.ext 1 (.t 24)), .none⟩, ⟨(.some 8), (.mov (.t 27)), .none⟩, ⟨(.some 9), (.mov (.t 28)), .none⟩]) (.seq (.seq (.reg .false [⟨(.some 29), (.mov (.t 9)), .none⟩, ⟨(.some 30), (.binB .true (.t 29) (.c (.iface 1 .undef))), .none⟩, ⟨(.some 31), (.mov (.t 30)), .none⟩, ⟨(.some 32), (.mov (.t 8)), (.some ((.t 31), .false))⟩, ⟨(.some 33), (.call (.c (.fn 20 [])) [(.t 32)]), (.some ((.t 31), .false))⟩, ⟨(.some 34), (.mov (.t 7)), (.some ((.t 31), .false))⟩, ⟨(.some 35), (.bin .neq (.t 33) (.t 34)), (.some ((.t 31), .false))⟩, ⟨(.some 36), (.pick (.t 31) (.c (.bool .true)) (.t 35)), .none⟩]) (.cond (.t 36) (.seq (.reg .false [⟨(.some 37), (.build [(.int .i64 0), (.int .i64 0), (.int .i64 0), (.int .i64 0)] []), .none⟩, ⟨.none, (.store 4 (.t 2) (.t 37)), .none⟩, ⟨(.some 3), (.mov (.c (.bool .false))), .none⟩]) .ret) .skip)) (.reg .false [⟨(.some 38), (.mov (.t 6)), .none⟩, ⟨(.some 39), (.mov (.t 8)), .none⟩, ⟨(.some 40), (.idxAA .false 4 1 (.t 5) (.t 38)), .none⟩, ⟨.none, (.store 1 (.t 40) (.t 39)), .none⟩]))))) (.reg .false [⟨(.some 41), (.bin .add (.t 19) (.c (.int .i64 1))), .none⟩, ⟨(.some 19), (.mov (.t 41)), .none⟩]))))))) (.seq (.reg .false [⟨(.some 42), (.idxAA .false 4 1 (.t 5) (.c (.int .i64 0))), .none⟩, ⟨(.some 43), (.load .false 1 (.t 42)), .none⟩, ⟨(.some 44), (.idxAA .false 4 1 (.t 5) (.c (.int .i64 1))), .none⟩, ⟨(.some 45), (.load .false 1 (.t 44)), .none⟩, ⟨(.some 46), (.idxAA .false 4 1 (.t 5) (.c (.int .i64 2))), .none⟩, ⟨(.some 47), (.load .false 1 (.t 46)), .none⟩, ⟨(.some 48), (.idxAA .false 4 1 (.t 5) (.c (.int .i64 3))), .none⟩, ⟨(.some 49), (.load .false 1 (.t 48)), .none⟩, ⟨(.some 50), (.build [(.int .i64 0), (.int .i64 0), (.int .i64 0), (.int .i64 0)] [(0, (1, (.t 43))), (1, (1, (.t 45))), (2, (1, (.t 47))), (3, (1, (.t 49)))]), .none⟩, ⟨(.some 10), (.alloc 24 4 (.agg [(.int .i64 0), (.int .i64 0), (.int .i64 0), (.int .i64 0)])), .none⟩, ⟨.none, (.store 4 (.t 10) (.t 50)), .none⟩]) (.seq (.reg .true [⟨(.some 51), (.load .true 4 (.t 10)), .none⟩, ⟨(.some 52), (.load .true 4 (.t 10)), .none⟩, ⟨(.some 53), (.call (.c (.fn 17 [])) [(.t 52)]), .none⟩, ⟨.none, (.store 4 (.t 2) (.t 51)), .none⟩, ⟨(.some 3), (.mov (.t 53)), .none⟩]) .ret))))))), [(.cell .true 4 (.t 2)), (.tmp (.t 3))]⟩
theorem e25 : cfn Tryd.prog Tryd.f25 = some c25 := by kernel_rfl
theorem k25 : callable Tryd.prog 25 = true := by kernel_rfl
def c26 : VFn := ⟨40, (.seq (.reg .false [⟨(.some 4), (.mov (.c .nils)), .none⟩]) (.seq (.reg .false [⟨(.some 7), (.bslice 9 1 [(.c (.str []))]), .none⟩, ⟨(.some 5), (.mov (.t 7)), .none⟩]) (.seq (.seq (.reg .false [⟨(.some 6), (.mov (.c (.int .i64 0))), .none⟩]) (.block 0 (.loop (.seq (.seq (.reg .false [⟨(.some 8), (.mov (.t 6)), .none⟩, ⟨(.some 9), (.mov (.t 0)), .none⟩, ⟨(.some 10), (.len .true (.t 9)), .none⟩, ⟨(.some 11), (.bin .lss (.t 8) (.t 10)), .none⟩]) (.cond (.t 11) .skip (.exit 0))) (.seq (.block 1 (.seq (.reg .false [⟨(.some 14), (.mov (.t 0)), .none⟩, ⟨(.some 15), (.mov (.t 6)), .none⟩, ⟨(.some 16), (.idxS (.t 14) (.t 15)), .none⟩, ⟨(.some 17), (.mov (.t 1)), .none⟩, ⟨(.some 18), (.bin .eql (.t 16) (.t 17)), .none⟩]) (.cond (.t 18) (.reg .false [⟨(.some 19), (.mov (.t 5)), .none⟩, ⟨(.some 20), (.bslice 9 1 [(.c (.str []))]), .none⟩, ⟨(.some 21), (.append 9 1 16 (.t 19) (.t 20)), .none⟩, ⟨(.some 5), (.mov (.t 21)), .none⟩]) (.reg .true [⟨(.some 22), (.mov (.t 5)), .none⟩, ⟨(.some 23), (.mov (.t 5)), .none⟩, ⟨(.some 24), (.len .false (.t 23)), .none⟩, ⟨(.some 25), (.bin .sub (.t 24) (.c (.int .i64 1))), .none⟩, ⟨(.some 26), (.mov (.t 5)), .none⟩, ⟨(.some 27), (.mov (.t 5)), .none⟩, ⟨(.some 28), (.len .false (.t 27)), .none⟩, ⟨(.some 29), (.bin .sub (.t 28) (.c (.int .i64 1))), .none⟩, ⟨(.some 30), (.idxA 1 (.t 26) (.t 29)), .none⟩, ⟨(.some 31), (.load .false 1 (.t 30)), .none⟩, ⟨(.some 32), (.mov (.t 0)), .none⟩, ⟨(.some 33), (.mov (.t 6)), .none⟩, ⟨(.some 34), (.mov (.t 6)), .none⟩, ⟨(.some 35), (.bin .add (.t 34) (.c (.int .i64 1))), .none⟩, ⟨(.some 36), (.sliceS (.t 32) (.some (.t 33)) (.some (.t 35))), .none⟩, ⟨(.some 37), (.bin .add (.t 31) (.t 36)), .none⟩, ⟨(.some 38), (.idxA 1 (.t 22) (.t 25)), .none⟩, ⟨.none, (.store 1 (.t 38) (.t 37)), .none⟩])))) (.reg .false [⟨(.some 12), (.mov (.t 6)), .none⟩, ⟨(.some 13), (.bin .add (.t 12) (.c (.int .i64 1))), .none⟩, ⟨(.some 6), (.mov (.t 13)), .none⟩])))))) (.seq (.reg .false [⟨(.some 39), (.mov (.t 5)), .none⟩, ⟨(.some 4), (.mov (.t 39)), .none⟩]) .ret)))), [(.tmp (.t 4))]⟩
theorem e26 : cfn Tryd.prog Tryd.f26 = some c26 := by kernel_rfl
theorem k26 : callable Tryd.prog 26 = true := by kernel_rfl
def c27 : VFn := ⟨70, (.seq (.reg .false [⟨(.some 2), (.mov (.c (.int .i64 0))), .none⟩, ⟨(.some 3), (.mov (.c (.bool .false))), .none⟩]) (.seq (.reg .false [⟨(.some 7), (.mov (.t 0)), .none⟩, ⟨(.some 8), (.len .true (.t 7)), .none⟩, ⟨(.some 9), (.bin .gtr (.t 8) (.c (.int .i64 0))), .none⟩, ⟨(.some 10), (.mov (.t 9)), .none⟩, ⟨(.some 11), (.mov (.t 0)), (.some ((.t 10), .true))⟩, ⟨(.some 12), (.idxS (.t 11) (.c (.int .i64 0))), (.some ((.t 10), .true))⟩, ⟨(.some 13), (.bin .eql (.t 12) (.c (.int .u8 45))), (.some ((.t 10), .true))⟩, ⟨(.some 14), (.pick (.t 10) (.t 13) (.c (.bool .false))), .none⟩, ⟨(.some 4), (.mov (.t 14)), .none⟩]) (.seq (.seq (.reg .false [⟨(.some 15), (.mov (.t 4)), .none⟩]) (.cond (.t 15) (.reg .false [⟨(.some 16), (.mov (.t 0)), .none⟩, ⟨(.some 17), (.sliceS (.t 16) (.some (.c (.int .i64 1))) .none), .none⟩, ⟨(.some 0), (.mov (.t 17)), .none⟩]) .skip)) (.seq (.seq (.reg .false [⟨(.some 18), (.mov (.t 0)), .none⟩, ⟨(.some 19), (.bin .eql (.t 18) (.c (.str []))), .none⟩, ⟨(.some 20), (.mov (.t 19)), .none⟩, ⟨(.some 21), (.mov (.t 0)), (.some ((.t 20), .false))⟩, ⟨(.some 22), (.len .true (.t 21)), (.some ((.t 20), .false))⟩, ⟨(.some 23), (.bin .gtr (.t 22) (.c (.int .i64 13))), (.some ((.t 20), .false))⟩, ⟨(.some 24), (.pick (.t 20) (.c (.bool .true)) (.t 23)), .none⟩, ⟨(.some 25), (.mov (.t 24)), .none⟩, ⟨(.some 26), (.mov (.t 0)), (.some ((.t 25), .false))⟩, ⟨(.some 27), (.idxS (.t 26) (.c (.int .i64 0))), (.some ((.t 25), .false))⟩, ⟨(.some 28), (.bin .eql (.t 27) (.c (.int .u8 48))), (.some ((.t 25), .false))⟩, ⟨(.some 29), (.mov (.t 28)), (.some ((.t 25), .false))⟩, ⟨(.some 30), (.mov (.t 0)), (.some ((.t 29), .true))⟩, ⟨(.some 31), (.len .true (.t 30)), (.some ((.t 29), .true))⟩, ⟨(.some 32), (.bin .gtr (.t 31) (.c (.int .i64 1))), (.some ((.t 29), .true))⟩, ⟨(.some 33), (.mov (.t 32)), (.some ((.t 29), .true))⟩, ⟨(.some 34), (.mov (.t 4)), (.some ((.t 33), .false))⟩, ⟨(.some 35), (.pick (.t 33) (.c (.bool .true)) (.t 34)), (.some ((.t 29), .true))⟩, ⟨(.some 36), (.pick (.t 29) (.t 35) (.c (.bool .false))), (.some ((.t 25), .false))⟩, ⟨(.some 37), (.pick (.t 25) (.c (.bool .true)) (.t 36)), .none⟩]) (.cond (.t 37) (.seq (.reg .false [⟨(.some 2), (.mov (.c (.int .i64 0))), .none⟩, ⟨(.some 3), (.mov (.c (.bool .false))), .none⟩]) .ret) .skip)) (.seq (.reg .false [⟨(.some 5), (.mov (.c (.int .i64 0))), .none⟩]) (.seq (.seq (.reg .false [⟨(.some 6), (.mov (.c (.int .i64 0))), .none⟩]) (.block 0 (.loop (.seq (.seq (.reg .false [⟨(.some 38), (.mov (.t 6)), .none⟩, ⟨(.some 39), (.mov (.t 0)), .none⟩, ⟨(.some 40), (.len .true (.t 39)), .none⟩, ⟨(.some 41), (.bin .lss (.t 38) (.t 40)), .none⟩]) (.cond (.t 41) .skip (.exit 0))) (.seq (.block 1 (.seq (.seq (.reg .false [⟨(.some 44), (.mov (.t 0)), .none⟩, ⟨(.some 45), (.mov (.t 6)), .none⟩, ⟨(.some 46), (.idxS (.t 44) (.t 45)), .none⟩, ⟨(.some 47), (.bin .lss (.t 46) (.c (.int .u8 48))), .none⟩, ⟨(.some 48), (.mov (.t 47)), .none⟩, ⟨(.some 49), (.mov (.t 0)), (.some ((.t 48), .false))⟩, ⟨(.some 50), (.mov (.t 6)), (.some ((.t 48), .false))⟩, ⟨(.some 51), (.idxS (.t 49) (.t 50)), (.some ((.t 48), .false))⟩, ⟨(.some 52), (.bin .gtr (.t 51) (.c (.int .u8 57))), (.some ((.t 48), .false))⟩, ⟨(.some 53), (.pick (.t 48) (.c (.bool .true)) (.t 52)), .none⟩]) (.cond (.t 53) (.seq (.reg .false [⟨(.some 2), (.mov (.c (.int .i64 0))), .none⟩, ⟨(.some 3), (.mov (.c (.bool .false))), .none⟩]) .ret) .skip)) (.reg .false [⟨(.some 54), (.mov (.t 5)), .none⟩, ⟨(.some 55), (.bin .mul (.c (.int .i64 10)) (.t 54)), .none⟩, ⟨(.some 56), (.mov (.t 0)), .none⟩, ⟨(.some 57), (.mov (.t 6)), .none⟩, ⟨(.some 58), (.idxS (.t 56) (.t 57)), .none⟩, ⟨(.some 59), (.bin .sub (.t 58) (.c (.int .u8 48))), .none⟩, ⟨(.some 60), (.convI .i64 (.t 59)), .none⟩, ⟨(.some 61), (.bin .add (.t 55) (.t 60)), .none⟩, ⟨(.some 5), (.mov (.t 61)), .none⟩]))) (.reg .false [⟨(.some 42), (.mov (.t 6)), .none⟩, ⟨(.some 43), (.bin .add (.t 42) (.c (.int .i64 1))), .none⟩, ⟨(.some 6), (.mov (.t 43)), .none⟩])))))) (.seq (.seq (.reg .false [⟨(.some 62), (.mov (.t 4)), .none⟩]) (.cond (.t 62) (.reg .false [⟨(.some 63), (.mov (.t 5)), .none⟩, ⟨(.some 64), (.neg (.t 63)), .none⟩, ⟨(.some 5), (.mov (.t 64)), .none⟩]) .skip)) (.seq (.reg .false [⟨(.some 65), (.mov (.t 5)), .none⟩, ⟨(.some 66), (.mov (.t 5)), .none⟩, ⟨(.some 67), (.call (.c (.fn 37 [])) [(.t 66)]), .none⟩, ⟨(.some 68), (.mov (.t 5)), .none⟩, ⟨(.some 69), (.bin .eql (.t 67) (.t 68)), .none⟩, ⟨(.some 2), (.mov (.t 65)), .none⟩, ⟨(.some 3), (.mov (.t 69)), .none⟩]) .ret)))))))), [(.tmp (.t 2)), (.tmp (.t 3))]⟩
theorem e27 : cfn Tryd.prog Tryd.f27 = some c27 := by kernel_rfl
theorem k27 : callable Tryd.prog 27 = true := by kernel_rfl
def c28 : VFn := ⟨20, (.seq (.reg .false [⟨(.some 2), (.mov (.c (.int .i64 0))), .none⟩]) (.seq (.reg .false [⟨(.some 3), (.mov (.c (.int .i64 0))), .none⟩]) (.seq (.seq (.reg .false [⟨(.some 4), (.mov (.c (.int .i64 0))), .none⟩]) (.block 0 (.loop (.seq (.seq (.reg .false [⟨(.some 5), (.mov (.t 4)), .none⟩, ⟨(.some 6), (.mov (.t 0)), .none⟩, ⟨(.some 7), (.len .false (.t 6)), .none⟩, ⟨(.some 8), (.bin .lss (.t 5) (.t 7)), .none⟩]) (.cond (.t 8) .skip (.exit 0))) (.seq (.block 1 (.reg .false [⟨(.some 11), (.mov (.t 3)), .none⟩, ⟨(.some 12), (.mov (.t 0)), .none⟩, ⟨(.some 13), (.mov (.t 4)), .none⟩, ⟨(.some 14), (.idxA 1 (.t 12) (.t 13)), .none⟩, ⟨(.some 15), (.load .false 1 (.t 14)), .none⟩, ⟨(.some 16), (.call (.c (.fn 37 [])) [(.t 15)]), .none⟩, ⟨(.some 17), (.bin .add (.t 11) (.t 16)), .none⟩, ⟨(.some 18), (.call (.c (.fn 37 [])) [(.t 17)]), .none⟩, ⟨(.some 3), (.mov (.t 18)), .none⟩])) (.reg .false [⟨(.some 9), (.mov (.t 4)), .none⟩, ⟨(.some 10), (.bin .add (.t 9) (.c (.int .i64 1))), .none⟩, ⟨(.some 4), (.mov (.t 10)), .none⟩])))))) (.seq (.reg .false [⟨(.some 19), (.mov (.t 3)), .none⟩, ⟨(.some 2), (.mov (.t 19)), .none⟩]) .ret)))), [(.tmp (.t 2))]⟩
theorem e28 : cfn Tryd.prog Tryd.f28 = some c28 := by kernel_rfl
theorem k28 : callable Tryd.prog 28 = true := by kernel_rfl
def c29 : VFn := ⟨4, (.seq (.reg .false [⟨(.some 1), (.box 42 5 (.t 0)), .none⟩, ⟨(.some 2), (.mov (.c .nilfn)), .none⟩]) (.seq (.reg .false [⟨(.some 3), (.mkfn 41 [(.t 1)]), .none⟩, ⟨(.some 2), (.mov (.t 3)), .none⟩]) .ret)), [(.tmp (.t 2))]⟩
theorem e29 : cfn Tryd.prog Tryd.f29 = some c29 := by kernel_rfl
theorem k29 : callable Tryd.prog 29 = true := by kernel_rfl
def c30 : VFn := ⟨19, (.seq (.reg .false [⟨(.some 2), (.mov (.c (.int .i64 0))), .none⟩]) (.seq (.reg .false [⟨(.some 3), (.mov (.c (.int .i64 0))), .none⟩]) (.seq (.seq (.reg .false [⟨(.some 6), (.mov (.t 0)), .none⟩, ⟨(.some 7), (.len .false (.t 6)), .none⟩, ⟨(.some 8), (.mov (.c (.int .i64 0))), .none⟩]) (.block 0 (.loop (.seq (.reg .false [⟨(.some 9), (.bin .lss (.t 8) (.t 7)), .none⟩]) (.seq (.cond (.t 9) .skip (.exit 0)) (.seq (.block 1 (.seq (.reg .false [⟨(.some 10), (.idxA 1 (.t 6) (.t 8)), .none⟩, ⟨(.some 11), (.load .false 1 (.t 10)), .none⟩, ⟨(.some 5), (.mov (.t 11)), .none⟩]) (.reg .false [⟨(.some 12), (.mov (.t 3)), .none⟩, ⟨(.some 13), (.mov (.t 5)), .none⟩, ⟨(.some 14), (.call (.c (.fn 34 [])) [(.t 13)]), .none⟩, ⟨(.some 15), (.bin .add (.t 12) (.t 14)), .none⟩, ⟨(.some 16), (.call (.c (.fn 34 [])) [(.t 15)]), .none⟩, ⟨(.some 3), (.mov (.t 16)), .none⟩]))) (.reg .false [⟨(.some 17), (.bin .add (.t 8) (.c (.int .i64 1))), .none⟩, ⟨(.some 8), (.mov (.t 17)), .none⟩]))))))) (.seq (.reg .false [⟨(.some 18), (.mov (.t 3)), .none⟩, ⟨(.some 2), (.mov (.t 18)), .none⟩]) .ret)))), [(.tmp (.t 2))]⟩
theorem e30 : cfn Tryd.prog Tryd.f30 = some c30 := by kernel_rfl
theorem k30 : callable Tryd.prog 30 = true := by kernel_rfl
def c31 : VFn := ⟨11, (.seq (.reg .false [⟨(.some 4), (.mov (.c (.int .i64 0))), .none⟩]) (.seq (.reg .false [⟨(.some 5), (.mov (.t 0)), .none⟩, ⟨(.some 6), (.call (.c (.fn 34 [])) [(.t 5)]), .none⟩, ⟨(.some 7), (.mov (.t 1)), .none⟩, ⟨(.some 8), (.call (.c (.fn 34 [])) [(.t 7)]), .none⟩, ⟨(.some 9), (.bin .sub (.t 6) (.t 8)), .none⟩, ⟨(.some 10), (.call (.c (.fn 34 [])) [(.t 9)]), .none⟩, ⟨(.some 4), (.mov (.t 10)), .none⟩]) .ret)), [(.tmp (.t 4))]⟩
theorem e31 : cfn Tryd.prog Tryd.f31 = some c31 := by kernel_rfl
theorem k31 : callable Tryd.prog 31 = true := by kernel_rfl
def c32 : VFn := ⟨9, (.seq (.reg .false [⟨(.some 4), (.mov (.c (.bool .false))), .none⟩]) (.seq (.reg .false [⟨(.some 5), (.mov (.t 0)), .none⟩, ⟨(.some 6), (.mov (.t 1)), .none⟩, ⟨(.some 7), (.call (.c (.fn 42 [])) [(.t 5), (.t 6)]), .none⟩, ⟨(.some 8), (.bin .geq (.t 7) (.c (.int .i64 0))), .none⟩, ⟨(.some 4), (.mov (.t 8)), .none⟩]) .ret)), [(.tmp (.t 4))]⟩
theorem e32 : cfn Tryd.prog Tryd.f32 = some c32 := by kernel_rfl
theorem k32 : callable Tryd.prog 32 = true := by kernel_rfl
def c33 : VFn := ⟨7, (.seq (.reg .false [⟨(.some 2), (.mov (.c (.bool .false))), .none⟩]) (.seq (.reg .false [⟨(.some 3), (.mov (.t 0)), .none⟩, ⟨(.some 4), (.call (.c (.fn 34 [])) [(.t 3)]), .none⟩, ⟨(.some 5), (.mov (.t 0)), .none⟩, ⟨(.some 6), (.bin .neq (.t 4) (.t 5)), .none⟩, ⟨(.some 2), (.mov (.t 6)), .none⟩]) .ret)), [(.tmp (.t 2))]⟩
theorem e33 : cfn Tryd.prog Tryd.f33 = some c33 := by kernel_rfl
theorem k33 : callable Tryd.prog 33 = true := by kernel_rfl
def c34 : VFn := ⟨6, (.seq (.reg .false [⟨(.some 2), (.mov (.c (.int .i64 0))), .none⟩]) (.seq (.reg .false [⟨(.some 3), (.mov (.t 0)), .none⟩, ⟨(.some 4), (.minmax .false (.t 3) (.c (.int .i64 1099511627776))), .none⟩, ⟨(.some 5), (.minmax .true (.c (.int .i64 (-1099511627776))) (.t 4)), .none⟩, ⟨(.some 2), (.mov (.t 5)), .none⟩]) .ret)), [(.tmp (.t 2))]⟩
theorem e34 : cfn Tryd.prog Tryd.f34 = some c34 := by kernel_rfl
theorem k34 : callable Tryd.prog 34 = true := by kernel_rfl
def c37 : VFn := ⟨8, (.seq (.reg .false [⟨(.some 2), (.mov (.c (.int .i64 0))), .none⟩]) (.seq (.seq (.reg .false [⟨(.some 3), (.mov (.t 0)), .none⟩, ⟨(.some 4), (.bin .gtr (.t 3) (.c (.int .i64 1099511627776))), .none⟩]) (.cond (.t 4) (.seq (.reg .false [⟨(.some 2), (.mov (.c (.int .i64 1099511627776))), .none⟩]) .ret) .skip)) (.seq (.seq (.reg .false [⟨(.some 5), (.mov (.t 0)), .none⟩, ⟨(.some 6), (.bin .lss (.t 5) (.c (.int .i64 (-1099511627776)))), .none⟩]) (.cond (.t 6) (.seq (.reg .false [⟨(.some 2), (.mov (.c (.int .i64 (-1099511627776)))), .none⟩]) .ret) .skip)) (.seq (.reg .false [⟨(.some 7), (.mov (.t 0)), .none⟩, ⟨(.some 2), (.mov (.t 7)), .none⟩]) .ret)))), [(.tmp (.t 2))]⟩
theorem e37 : cfn Tryd.prog Tryd.f37 = some c37 := by kernel_rfl
theorem k37 : callable Tryd.prog 37 = true := by kernel_rfl
def c38 : VFn := ⟨23, (.seq (.reg .false [⟨(.some 4), (.mov (.c (.str []))), .none⟩, ⟨(.some 5), (.mov (.c (.str []))), .none⟩, ⟨(.some 6), (.mov (.c (.bool .false))), .none⟩]) (.seq (.seq (.reg .false [⟨(.some 8), (.mov (.t 0)), .none⟩, ⟨(.some 9), (.mov (.t 1)), .none⟩, ⟨(.some 10), (.call (.c (.fn 45 [])) [(.t 8), (.t 9)]), .none⟩, ⟨(.some 7), (.mov (.t 10)), .none⟩]) (.seq (.reg .false [⟨(.some 11), (.mov (.t 7)), .none⟩, ⟨(.some 12), (.bin .geq (.t 11) (.c (.int .i64 0))), .none⟩]) (.cond (.t 12) (.seq (.reg .true [⟨(.some 13), (.mov (.t 0)), .none⟩, ⟨(.some 14), (.mov (.t 7)), .none⟩, ⟨(.some 15), (.sliceS (.t 13) .none (.some (.t 14))), .none⟩, ⟨(.some 16), (.mov (.t 0)), .none⟩, ⟨(.some 17), (.mov (.t 7)), .none⟩, ⟨(.some 18), (.mov (.t 1)), .none⟩, ⟨(.some 19), (.len .true (.t 18)), .none⟩, ⟨(.some 20), (.bin .add (.t 17) (.t 19)), .none⟩, ⟨(.some 21), (.sliceS (.t 16) (.some (.t 20)) .none), .none⟩, ⟨(.some 4), (.mov (.t 15)), .none⟩, ⟨(.some 5), (.mov (.t 21)), .none⟩, ⟨(.some 6), (.mov (.c (.bool .true))), .none⟩]) .ret) .skip))) (.seq (.reg .false [⟨(.some 22), (.mov (.t 0)), .none⟩, ⟨(.some 4), (.mov (.t 22)), .none⟩, ⟨(.some 5), (.mov (.c (.str []))), .none⟩, ⟨(.some 6), (.mov (.c (.bool .false))), .none⟩]) .ret))), [(.tmp (.t 4)), (.tmp (.t 5)), (.tmp (.t 6))]⟩
theorem e38 : cfn Tryd.prog Tryd.f38 = some c38 := by kernel_rfl
theorem k38 : callable Tryd.prog 38 = true := by kernel_rfl
def c39 : VFn := ⟨8, (.seq (.reg .false [⟨(.some 4), (.mov (.c .nils)), .none⟩]) (.seq (.reg .false [⟨(.some 5), (.mov (.t 0)), .none⟩, ⟨(.some 6), (.mov (.t 1)), .none⟩, ⟨(.some 7), (.call (.c (.fn 46 [])) [(.t 5), (.t 6), (.c (.int .i64 0)), (.c (.int .i64 (-1)))]), .none⟩, ⟨(.some 4), (.mov (.t 7)), .none⟩]) .ret)), [(.tmp (.t 4))]⟩
theorem e39 : cfn Tryd.prog Tryd.f39 = some c39 := by kernel_rfl
theorem k39 : callable Tryd.prog 39 = true := by kernel_rfl
def c41 : VFn := ⟨29, (.seq (.reg .false [⟨(.some 7), (.fldA .false 2 1 (.t 1)), .none⟩, ⟨(.some 8), (.load .false 1 (.t 7)), .none⟩, ⟨(.some 9), (.fldA .false 3 1 (.t 1)), .none⟩, ⟨(.some 10), (.load .false 1 (.t 9)), .none⟩, ⟨(.some 11), (.fldA .false 4 1 (.t 1)), .none⟩, ⟨(.some 12), (.load .false 1 (.t 11)), .none⟩, ⟨(.some 13), (.build [.nils, .nils, .nils] [(0, (1, (.t 8))), (1, (1, (.t 10))), (2, (1, (.t 12)))]), .none⟩, ⟨(.some 14), (.mov (.c (.int .i64 0))), .none⟩]) (.block 0 (.loop (.seq (.reg .false [⟨(.some 15), (.bin .lss (.t 14) (.c (.int .i64 3))), .none⟩]) (.seq (.cond (.t 15) .skip (.exit 0)) (.seq (.block 1 (.seq (.reg .false [⟨(.some 16), (.idxV .false 3 1 (.t 13) (.t 14)), .none⟩, ⟨(.some 4), (.mov (.t 16)), .none⟩]) (.seq (.reg .false [⟨(.some 17), (.mov (.t 4)), .none⟩, ⟨(.some 18), (.len .false (.t 17)), .none⟩, ⟨(.some 19), (.mov (.c (.int .i64 0))), .none⟩]) (.block 2 (.loop (.seq (.reg .false [⟨(.some 20), (.bin .lss (.t 19) (.t 18)), .none⟩]) (.seq (.cond (.t 20) .skip (.exit 2)) (.seq (.block 3 (.seq (.reg .false [⟨(.some 21), (.idxA 7 (.t 17) (.t 19)), .none⟩, ⟨(.some 22), (.load .true 7 (.t 21)), .none⟩, ⟨(.some 6), (.alloc 39 7 (.agg [(.int .i64 0), (.int .i64 0), (.int .i64 0), (.int .i64 0), (.int .i64 0), (.int .i64 0), (.int .i64 0)])), .none⟩, ⟨.none, (.store 7 (.t 6) (.t 22)), .none⟩]) (.seq (.reg .false [⟨(.some 23), (.mov (.t 0)), .none⟩, ⟨(.some 24), (.load .true 7 (.t 6)), .none⟩, ⟨(.some 25), (.call (.t 23) [(.t 24)]), .none⟩, ⟨(.some 26), (.not (.t 25)), .none⟩]) (.cond (.t 26) .ret .skip)))) (.reg .false [⟨(.some 27), (.bin .add (.t 19) (.c (.int .i64 1))), .none⟩, ⟨(.some 19), (.mov (.t 27)), .none⟩]))))))))) (.reg .false [⟨(.some 28), (.bin .add (.t 14) (.c (.int .i64 1))), .none⟩, ⟨(.some 14), (.mov (.t 28)), .none⟩]))))))), []⟩
theorem e41 : cfn Tryd.prog Tryd.f41 = some c41 := by kernel_rfl
theorem k41 : callable Tryd.prog 41 = true := by kernel_rfl
def c42 : VFn := ⟨19, (.seq (.reg .false [⟨(.some 4), (.mov (.c (.int .i64 0))), .none⟩]) (.seq (.seq (.reg .false [⟨(.some 6), (.mov (.t 0)), .none⟩, ⟨(.some 7), (.len .false (.t 6)), .none⟩, ⟨(.some 8), (.mov (.c (.int .i64 0))), .none⟩]) (.block 0 (.loop (.seq (.reg .false [⟨(.some 9), (.bin .lss (.t 8) (.t 7)), .none⟩]) (.seq (.cond (.t 9) .skip (.exit 0)) (.seq (.block 1 (.seq (.reg .false [⟨(.some 10), (.mov (.t 8)), .none⟩, ⟨(.some 5), (.mov (.t 10)), .none⟩]) (.seq (.reg .false [⟨(.some 11), (.mov (.t 1)), .none⟩, ⟨(.some 12), (.mov (.t 0)), .none⟩, ⟨(.some 13), (.mov (.t 5)), .none⟩, ⟨(.some 14), (.idxA 1 (.t 12) (.t 13)), .none⟩, ⟨(.some 15), (.load .false 1 (.t 14)), .none⟩, ⟨(.some 16), (.call (.t 11) [(.t 15)]), .none⟩]) (.cond (.t 16) (.seq (.reg .false [⟨(.some 17), (.mov (.t 5)), .none⟩, ⟨(.some 4), (.mov (.t 17)), .none⟩]) .ret) .skip)))) (.reg .false [⟨(.some 18), (.bin .add (.t 8) (.c (.int .i64 1))), .none⟩, ⟨(.some 8), (.mov (.t 18)), .none⟩]))))))) (.seq (.reg .false [⟨(.some 4), (.mov (.c (.int .i64 (-1)))), .none⟩]) .ret))), [(.tmp (.t 4))]⟩
theorem e42 : cfn Tryd.prog Tryd.f42 = some c42 := by kernel_rfl
theorem k42 : callable Tryd.prog 42 = true := by kernel_rfl
def c45 : VFn := ⟨143, (.seq (.reg .false [⟨(.some 4), (.mov (.c (.int .i64 0))), .none⟩]) (.seq (.reg .false [⟨(.some 14), (.mov (.t 1)), .none⟩, ⟨(.some 15), (.len .true (.t 14)), .none⟩, ⟨(.some 5), (.mov (.t 15)), .none⟩]) (.seq (.block 0 (.seq (.reg .false [⟨(.some 17), (.mov (.t 5)), .none⟩, ⟨(.some 18), (.bin .eql (.t 17) (.c (.int .i64 0))), .none⟩, ⟨(.some 19), (.mov (.t 18)), .none⟩, ⟨(.some 20), (.mov (.t 1)), (.some ((.t 19), .false))⟩, ⟨(.some 21), (.mov (.t 0)), (.some ((.t 19), .false))⟩, ⟨(.some 22), (.bin .eql (.t 20) (.t 21)), (.some ((.t 19), .false))⟩, ⟨(.some 23), (.pick (.t 19) (.c (.bool .true)) (.t 22)), .none⟩, ⟨(.some 16), (.mov (.t 23)), .none⟩]) (.cond (.t 16) (.seq (.reg .false [⟨(.some 4), (.mov (.c (.int .i64 0))), .none⟩]) .ret) (.seq (.reg .false [⟨(.some 25), (.mov (.t 5)), .none⟩, ⟨(.some 26), (.bin .eql (.t 25) (.c (.int .i64 1))), .none⟩, ⟨(.some 24), (.mov (.t 26)), .none⟩]) (.cond (.t 24) (.seq (.reg .false [⟨(.some 27), (.mov (.t 0)), .none⟩, ⟨(.some 28), (.mov (.t 1)), .none⟩, ⟨(.some 29), (.idxS (.t 28) (.c (.int .i64 0))), .none⟩, ⟨(.some 30), (.call (.c (.fn 53 [])) [(.t 27), (.t 29)]), .none⟩, ⟨(.some 4), (.mov (.t 30)), .none⟩]) .ret) (.seq (.reg .false [⟨(.some 32), (.mov (.t 5)), .none⟩, ⟨(.some 33), (.mov (.t 0)), .none⟩, ⟨(.some 34), (.len .true (.t 33)), .none⟩, ⟨(.some 35), (.bin .geq (.t 32) (.t 34)), .none⟩, ⟨(.some 31), (.mov (.t 35)), .none⟩]) (.cond (.t 31) (.seq (.reg .false [⟨(.some 4), (.mov (.c (.int .i64 (-1)))), .none⟩]) .ret) (.seq (.reg .false [⟨(.some 37), (.mov (.t 5)), .none⟩, ⟨(.some 38), (.load .false 1 (.c (.raw (.pointer (.some ⟨0, 0, .none⟩))))), .none⟩, ⟨(.some 39), (.bin .leq (.t 37) (.t 38)), .none⟩, ⟨(.some 40), (.mov (.t 39)), .none⟩, ⟨(.some 41), (.mov (.t 0)), (.some ((.t 40), .true))⟩, ⟨(.some 42), (.len .true (.t 41)), (.some ((.t 40), .true))⟩, ⟨(.some 43), (.bin .leq (.t 42) (.c (.int .i64 64))), (.some ((.t 40), .true))⟩, ⟨(.some 44), (.pick (.t 40) (.t 43) (.c (.bool .false))), .none⟩, ⟨(.some 36), (.mov (.t 44)), .none⟩]) (.cond (.t 36) (.seq (.reg .false [⟨(.some 45), (.mov (.t 0)), .none⟩, ⟨(.some 46), (.mov (.t 1)), .none⟩, ⟨(.some 47), (.call (.c (.fn 54 [])) [(.t 45), (.t 46)]), .none⟩, ⟨(.some 4), (.mov (.t 47)), .none⟩]) .ret) .skip))))))))) (.seq (.reg .false [⟨(.some 48), (.mov (.t 1)), .none⟩, ⟨(.some 49), (.idxS (.t 48) (.c (.int .i64 0))), .none⟩, ⟨(.some 6), (.mov (.t 49)), .none⟩]) (.seq (.reg .false [⟨(.some 50), (.mov (.t 1)), .none⟩, ⟨(.some 51), (.idxS (.t 50) (.c (.int .i64 1))), .none⟩, ⟨(.some 7), (.mov (.t 51)), .none⟩]) (.seq (.reg .false [⟨(.some 8), (.mov (.c (.int .i64 0))), .none⟩]) (.seq (.reg .false [⟨(.some 52), (.mov (.t 0)), .none⟩, ⟨(.some 53), (.len .true (.t 52)), .none⟩, ⟨(.some 54), (.mov (.t 5)), .none⟩, ⟨(.some 55), (.bin .sub (.t 53) (.t 54)), .none⟩, ⟨(.some 56), (.bin .add (.t 55) (.c (.int .i64 1))), .none⟩, ⟨(.some 9), (.mov (.t 56)), .none⟩]) (.seq (.reg .false [⟨(.some 10), (.mov (.c (.int .i64 0))), .none⟩]) (.seq (.block 1 (.loop (.seq (.seq (.reg .false [⟨(.some 57), (.mov (.t 8)), .none⟩, ⟨(.some 58), (.mov (.t 9)), .none⟩, ⟨(.some 59), (.bin .lss (.t 57) (.t 58)), .none⟩]) (.cond (.t 59) .skip (.exit 1))) (.block 2 (.seq (.seq (.reg .false [⟨(.some 60), (.mov (.t 0)), .none⟩, ⟨(.some 61), (.mov (.t 8)), .none⟩, ⟨(.some 62), (.idxS (.t 60) (.t 61)), .none⟩, ⟨(.some 63), (.mov (.t 6)), .none⟩, ⟨(.some 64), (.bin .neq (.t 62) (.t 63)), .none⟩]) (.cond (.t 64) (.seq (.reg .false [⟨(.some 65), (.mov (.t 0)), .none⟩, ⟨(.some 66), (.mov (.t 8)), .none⟩, ⟨(.some 67), (.bin .add (.t 66) (.c (.int .i64 1))), .none⟩, ⟨(.some 68), (.mov (.t 9)), .none⟩, ⟨(.some 69), (.sliceS (.t 65) (.some (.t 67)) (.some (.t 68))), .none⟩, ⟨(.some 70), (.mov (.t 6)), .none⟩, ⟨(.some 71), (.call (.c (.fn 53 [])) [(.t 69), (.t 70)]), .none⟩, ⟨(.some 11), (.mov (.t 71)), .none⟩]) (.seq (.seq (.reg .false [⟨(.some 72), (.mov (.t 11)), .none⟩, ⟨(.some 73), (.bin .lss (.t 72) (.c (.int .i64 0))), .none⟩]) (.cond (.t 73) (.seq (.reg .false [⟨(.some 4), (.mov (.c (.int .i64 (-1)))), .none⟩]) .ret) .skip)) (.reg .false [⟨(.some 74), (.mov (.t 8)), .none⟩, ⟨(.some 75), (.mov (.t 11)), .none⟩, ⟨(.some 76), (.bin .add (.t 75) (.c (.int .i64 1))), .none⟩, ⟨(.some 77), (.bin .add (.t 74) (.t 76)), .none⟩, ⟨(.some 8), (.mov (.t 77)), .none⟩]))) .skip)) (.seq (.seq (.reg .false [⟨(.some 78), (.mov (.t 0)), .none⟩, ⟨(.some 79), (.mov (.t 8)), .none⟩, ⟨(.some 80), (.bin .add (.t 79) (.c (.int .i64 1))), .none⟩, ⟨(.some 81), (.idxS (.t 78) (.t 80)), .none⟩, ⟨(.some 82), (.mov (.t 7)), .none⟩, ⟨(.some 83), (.bin .eql (.t 81) (.t 82)), .none⟩, ⟨(.some 84), (.mov (.t 83)), .none⟩, ⟨(.some 85), (.mov (.t 0)), (.some ((.t 84), .true))⟩, ⟨(.some 86), (.mov (.t 8)), (.some ((.t 84), .true))⟩, ⟨(.some 87), (.mov (.t 8)), (.some ((.t 84), .true))⟩, ⟨(.some 88), (.mov (.t 5)), (.some ((.t 84), .true))⟩, ⟨(.some 89), (.bin .add (.t 87) (.t 88)), (.some ((.t 84), .true))⟩, ⟨(.some 90), (.sliceS (.t 85) (.some (.t 86)) (.some (.t 89))), (.some ((.t 84), .true))⟩, ⟨(.some 91), (.mov (.t 1)), (.some ((.t 84), .true))⟩, ⟨(.some 92), (.bin .eql (.t 90) (.t 91)), (.some ((.t 84), .true))⟩, ⟨(.some 93), (.pick (.t 84) (.t 92) (.c (.bool .false))), .none⟩]) (.cond (.t 93) (.seq (.reg .false [⟨(.some 94), (.mov (.t 8)), .none⟩, ⟨(.some 4), (.mov (.t 94)), .none⟩]) .ret) .skip)) (.seq (.reg .false [⟨(.some 95), (.mov (.t 8)), .none⟩, ⟨(.some 96), (.bin .add (.t 95) (.c (.int .i64 1))), .none⟩, ⟨(.some 8), (.mov (.t 96)), .none⟩]) (.seq (.reg .false [⟨(.some 97), (.mov (.t 10)), .none⟩, ⟨(.some 98), (.bin .add (.t 97) (.c (.int .i64 1))), .none⟩, ⟨(.some 10), (.mov (.t 98)), .none⟩]) (.seq (.reg .false [⟨(.some 99), (.mov (.t 5)), .none⟩, ⟨(.some 100), (.load .false 1 (.c (.raw (.pointer (.some ⟨0, 0, .none⟩))))), .none⟩, ⟨(.some 101), (.bin .leq (.t 99) (.t 100)), .none⟩, ⟨(.some 102), (.mov (.t 101)), .none⟩, ⟨(.some 103), (.mov (.t 10)), (.some ((.t 102), .true))⟩, ⟨(.some 104), (.mov (.t 8)), (.some ((.t 102), .true))⟩, ⟨(.some 105), (.call (.c (.fn 55 [])) [(.t 104)]), (.some ((.t 102), .true))⟩, ⟨(.some 106), (.bin .gtr (.t 103) (.t 105)), (.some ((.t 102), .true))⟩, ⟨(.some 107), (.pick (.t 102) (.t 106) (.c (.bool .false))), .none⟩]) (.cond (.t 107) (.seq (.reg .false [⟨(.some 108), (.mov (.t 0)), .none⟩, ⟨(.some 109), (.mov (.t 8)), .none⟩, ⟨(.some 110), (.sliceS (.t 108) (.some (.t 109)) .none), .none⟩, ⟨(.some 111), (.mov (.t 1)), .none⟩, ⟨(.some 112), (.call (.c (.fn 54 [])) [(.t 110), (.t 111)]), .none⟩, ⟨(.some 12), (.mov (.t 112)), .none⟩]) (.seq (.seq (.reg .false [⟨(.some 113), (.mov (.t 12)), .none⟩, ⟨(.some 114), (.bin .geq (.t 113) (.c (.int .i64 0))), .none⟩]) (.cond (.t 114) (.seq (.reg .false [⟨(.some 115), (.mov (.t 12)), .none⟩, ⟨(.some 116), (.mov (.t 8)), .none⟩, ⟨(.some 117), (.bin .add (.t 115) (.t 116)), .none⟩, ⟨(.some 4), (.mov (.t 117)), .none⟩]) .ret) .skip)) (.seq (.reg .false [⟨(.some 4), (.mov (.c (.int .i64 (-1)))), .none⟩]) .ret))) (.seq (.reg .false [⟨(.some 118), (.mov (.t 5)), .none⟩, ⟨(.some 119), (.load .false 1 (.c (.raw (.pointer (.some ⟨0, 0, .none⟩))))), .none⟩, ⟨(.some 120), (.bin .gtr (.t 118) (.t 119)), .none⟩, ⟨(.some 121), (.mov (.t 120)), .none⟩, ⟨(.some 122), (.mov (.t 10)), (.some ((.t 121), .true))⟩, ⟨(.some 123), (.mov (.t 8)), (.some ((.t 121), .true))⟩, ⟨(.some 124), (.bin .shr (.t 123) (.c (.int .u64 4))), (.some ((.t 121), .true))⟩, ⟨(.some 125), (.bin .add (.c (.int .i64 4)) (.t 124)), (.some ((.t 121), .true))⟩, ⟨(.some 126), (.bin .geq (.t 122) (.t 125)), (.some ((.t 121), .true))⟩, ⟨(.some 127), (.pick (.t 121) (.t 126) (.c (.bool .false))), .none⟩, ⟨(.some 128), (.mov (.t 127)), .none⟩, ⟨(.some 129), (.mov (.t 8)), (.some ((.t 128), .true))⟩, ⟨(.some 130), (.mov (.t 9)), (.some ((.t 128), .true))⟩, ⟨(.some 131), (.bin .lss (.t 129) (.t 130)), (.some ((.t 128), .true))⟩, ⟨(.some 132), (.pick (.t 128) (.t 131) (.c (.bool .false))), .none⟩]) (.cond (.t 132) (.seq (.reg .false [⟨(.some 133), (.mov (.t 0)), .none⟩, ⟨(.some 134), (.mov (.t 8)), .none⟩, ⟨(.some 135), (.sliceS (.t 133) (.some (.t 134)) .none), .none⟩, ⟨(.some 136), (.mov (.t 1)), .none⟩, ⟨(.some 137), (.call (.c (.fn 56 [])) [(.t 135), (.t 136)]), .none⟩, ⟨(.some 13), (.mov (.t 137)), .none⟩]) (.seq (.seq (.reg .false [⟨(.some 138), (.mov (.t 13)), .none⟩, ⟨(.some 139), (.bin .lss (.t 138) (.c (.int .i64 0))), .none⟩]) (.cond (.t 139) (.seq (.reg .false [⟨(.some 4), (.mov (.c (.int .i64 (-1)))), .none⟩]) .ret) .skip)) (.seq (.reg .false [⟨(.some 140), (.mov (.t 8)), .none⟩, ⟨(.some 141), (.mov (.t 13)), .none⟩, ⟨(.some 142), (.bin .add (.t 140) (.t 141)), .none⟩, ⟨(.some 4), (.mov (.t 142)), .none⟩]) .ret))) .skip)))))))))))) (.seq (.reg .false [⟨(.some 4), (.mov (.c (.int .i64 (-1)))), .none⟩]) .ret)))))))))), [(.tmp (.t 4))]⟩
theorem e45 : cfn Tryd.prog Tryd.f45 = some c45 := by kernel_rfl
theorem k45 : callable Tryd.prog 45 = true := by kernel_rfl
def c46 : VFn := ⟨66, (.seq (.reg .false [⟨(.some 8), (.mov (.c .nils)), .none⟩]) (.seq (.seq (.reg .false [⟨(.some 12), (.mov (.t 3)), .none⟩, ⟨(.some 13), (.bin .eql (.t 12) (.c (.int .i64 0))), .none⟩]) (.cond (.t 13) (.seq (.reg .false [⟨(.some 8), (.mov (.c .nils)), .none⟩]) .ret) .skip)) (.seq (.seq (.reg .false [⟨(.some 14), (.mov (.t 1)), .none⟩, ⟨(.some 15), (.bin .eql (.t 14) (.c (.str []))), .none⟩]) (.cond (.t 15) (.seq (.reg .false [⟨(.some 16), (.mov (.t 0)), .none⟩, ⟨(.some 17), (.mov (.t 3)), .none⟩, ⟨(.some 18), (.call (.c (.fn 57 [])) [(.t 16), (.t 17)]), .none⟩, ⟨(.some 8), (.mov (.t 18)), .none⟩]) .ret) .skip)) (.seq (.seq (.reg .false [⟨(.some 19), (.mov (.t 3)), .none⟩, ⟨(.some 20), (.bin .lss (.t 19) (.c (.int .i64 0))), .none⟩]) (.cond (.t 20) (.reg .false [⟨(.some 21), (.mov (.t 0)), .none⟩, ⟨(.some 22), (.mov (.t 1)), .none⟩, ⟨(.some 23), (.call (.c (.fn 58 [])) [(.t 21), (.t 22)]), .none⟩, ⟨(.some 24), (.bin .add (.t 23) (.c (.int .i64 1))), .none⟩, ⟨(.some 3), (.mov (.t 24)), .none⟩]) .skip)) (.seq (.reg .false [⟨(.some 25), (.mov (.t 3)), .none⟩, ⟨(.some 26), (.mov (.t 0)), .none⟩, ⟨(.some 27), (.len .true (.t 26)), .none⟩, ⟨(.some 28), (.bin .add (.t 27) (.c (.int .i64 1))), .none⟩, ⟨(.some 29), (.minmax .false (.t 25) (.t 28)), .none⟩, ⟨(.some 3), (.mov (.t 29)), .none⟩]) (.seq (.reg .false [⟨(.some 30), (.mov (.t 3)), .none⟩, ⟨(.some 31), (.mk 9 1 16 (.str []) (.t 30)), .none⟩, ⟨(.some 9), (.mov (.t 31)), .none⟩]) (.seq (.reg .false [⟨(.some 32), (.mov (.t 3)), .none⟩, ⟨(.some 33), (.bin .sub (.t 32) (.c (.int .i64 1))), .none⟩, ⟨(.some 3), (.mov (.t 33)), .none⟩]) (.seq (.reg .false [⟨(.some 10), (.mov (.c (.int .i64 0))), .none⟩]) (.seq (.block 0 (.loop (.seq (.seq (.reg .false [⟨(.some 34), (.mov (.t 10)), .none⟩, ⟨(.some 35), (.mov (.t 3)), .none⟩, ⟨(.some 36), (.bin .lss (.t 34) (.t 35)), .none⟩]) (.cond (.t 36) .skip (.exit 0))) (.block 1 (.seq (.reg .false [⟨(.some 37), (.mov (.t 0)), .none⟩, ⟨(.some 38), (.mov (.t 1)), .none⟩, ⟨(.some 39), (.call (.c (.fn 59 [])) [(.t 37), (.t 38)]), .none⟩, ⟨(.some 11), (.mov (.t 39)), .none⟩]) (.seq (.seq (.reg .false [⟨(.some 40), (.mov (.t 11)), .none⟩, ⟨(.some 41), (.bin .lss (.t 40) (.c (.int .i64 0))), .none⟩]) (.cond (.t 41) (.exit 0) .skip)) (.seq (.reg .false [⟨(.some 42), (.mov (.t 9)), .none⟩, ⟨(.some 43), (.mov (.t 10)), .none⟩, ⟨(.some 44), (.mov (.t 0)), .none⟩, ⟨(.some 45), (.mov (.t 11)), .none⟩, ⟨(.some 46), (.mov (.t 2)), .none⟩, ⟨(.some 47), (.bin .add (.t 45) (.t 46)), .none⟩, ⟨(.some 48), (.sliceS (.t 44) .none (.some (.t 47))), .none⟩, ⟨(.some 49), (.idxA 1 (.t 42) (.t 43)), .none⟩, ⟨.none, (.store 1 (.t 49) (.t 48)), .none⟩]) (.seq (.reg .false [⟨(.some 50), (.mov (.t 0)), .none⟩, ⟨(.some 51), (.mov (.t 11)), .none⟩, ⟨(.some 52), (.mov (.t 1)), .none⟩, ⟨(.some 53), (.len .true (.t 52)), .none⟩, ⟨(.some 54), (.bin .add (.t 51) (.t 53)), .none⟩, ⟨(.some 55), (.sliceS (.t 50) (.some (.t 54)) .none), .none⟩, ⟨(.some 0), (.mov (.t 55)), .none⟩]) (.reg .false [⟨(.some 56), (.mov (.t 10)), .none⟩, ⟨(.some 57), (.bin .add (.t 56) (.c (.int .i64 1))), .none⟩, ⟨(.some 10), (.mov (.t 57)), .none⟩]))))))))) (.seq (.reg .false [⟨(.some 58), (.mov (.t 9)), .none⟩, ⟨(.some 59), (.mov (.t 10)), .none⟩, ⟨(.some 60), (.mov (.t 0)), .none⟩, ⟨(.some 61), (.idxA 1 (.t 58) (.t 59)), .none⟩, ⟨.none, (.store 1 (.t 61) (.t 60)), .none⟩]) (.seq (.reg .false [⟨(.some 62), (.mov (.t 9)), .none⟩, ⟨(.some 63), (.mov (.t 10)), .none⟩, ⟨(.some 64), (.bin .add (.t 63) (.c (.int .i64 1))), .none⟩, ⟨(.some 65), (.slice 1 (.t 62) .none (.some (.t 64)) .none), .none⟩, ⟨(.some 8), (.mov (.t 65)), .none⟩]) .ret))))))))))), [(.tmp (.t 8))]⟩
theorem e46 : cfn Tryd.prog Tryd.f46 = some c46 := by kernel_rfl
theorem k46 : callable Tryd.prog 46 = true := by kernel_rfl
def c53 : VFn := ⟨8, (.seq (.reg .false [⟨(.some 4), (.mov (.c (.int .i64 0))), .none⟩]) (.seq (.reg .false [⟨(.some 5), (.mov (.t 0)), .none⟩, ⟨(.some 6), (.mov (.t 1)), .none⟩, ⟨(.some 7), (.call (.c (.fn 70 [])) [(.t 5), (.t 6)]), .none⟩, ⟨(.some 4), (.mov (.t 7)), .none⟩]) .ret)), [(.tmp (.t 4))]⟩
def c59 : VFn := ⟨8, (.seq (.reg .false [⟨(.some 4), (.mov (.c (.int .i64 0))), .none⟩]) (.seq (.reg .false [⟨(.some 5), (.mov (.t 0)), .none⟩, ⟨(.some 6), (.mov (.t 1)), .none⟩, ⟨(.some 7), (.call (.c (.fn 45 [])) [(.t 5), (.t 6)]), .none⟩, ⟨(.some 4), (.mov (.t 7)), .none⟩]) .ret)), [(.tmp (.t 4))]⟩
theorem e59 : cfn Tryd.prog Tryd.f59 = some c59 := by kernel_rfl
theorem k59 : callable Tryd.prog 59 = true := by kernel_rfl
end Go.Vc
namespace Go.Vc
open Go.Proofs
def c18 : VFn := ⟨17, (.seq (.reg .false [⟨(.some 4), (.mov (.c .niliface)), .none⟩]) (.seq (.reg .false [⟨(.some 5), (.mov (.t 0)), .none⟩, ⟨(.some 6), (.call (.c (.fn 35 [])) [(.t 5)]), .none⟩]) (.seq (.reg .false [⟨(.some 7), (.mov (.t 0)), .none⟩, ⟨(.some 8), (.mov (.t 0)), .none⟩, ⟨(.some 9), (.nilCheck (.t 8)), .none⟩, ⟨(.some 10), (.fldA .false 1 1 (.t 9)), .none⟩, ⟨(.some 11), (.load .false 1 (.t 10)), .none⟩, ⟨(.some 12), (.mov (.t 1)), .none⟩, ⟨(.some 13), (.bslice 5 1 [(.t 12)]), .none⟩, ⟨(.some 14), (.append 5 1 1 (.t 11) (.t 13)), .none⟩, ⟨(.some 15), (.nilCheck (.t 7)), .none⟩, ⟨(.some 16), (.fldA .false 1 1 (.t 15)), .none⟩, ⟨.none, (.store 1 (.t 16) (.t 14)), .none⟩]) (.seq (.reg .false [⟨(.some 4), (.mov (.c .niliface)), .none⟩]) .ret)))), [(.tmp (.t 4))]⟩
theorem e18 : cfn Tryd.prog Tryd.f18 = some c18 := by kernel_rfl
theorem k18 : callable Tryd.prog 18 = true := by kernel_rfl
def c19 : VFn := ⟨19, (.seq (.reg .false [⟨(.some 4), (.mov (.c (.int .i64 0))), .none⟩, ⟨(.some 5), (.mov (.c .niliface)), .none⟩]) (.seq (.reg .false [⟨(.some 6), (.mov (.t 0)), .none⟩, ⟨(.some 7), (.call (.c (.fn 35 [])) [(.t 6)]), .none⟩]) (.seq (.reg .false [⟨(.some 8), (.mov (.t 0)), .none⟩, ⟨(.some 9), (.mov (.t 0)), .none⟩, ⟨(.some 10), (.nilCheck (.t 9)), .none⟩, ⟨(.some 11), (.fldA .false 1 1 (.t 10)), .none⟩, ⟨(.some 12), (.load .false 1 (.t 11)), .none⟩, ⟨(.some 13), (.mov (.t 1)), .none⟩, ⟨(.some 14), (.append 5 1 1 (.t 12) (.t 13)), .none⟩, ⟨(.some 15), (.nilCheck (.t 8)), .none⟩, ⟨(.some 16), (.fldA .false 1 1 (.t 15)), .none⟩, ⟨.none, (.store 1 (.t 16) (.t 14)), .none⟩]) (.seq (.reg .false [⟨(.some 17), (.mov (.t 1)), .none⟩, ⟨(.some 18), (.len .true (.t 17)), .none⟩, ⟨(.some 4), (.mov (.t 18)), .none⟩, ⟨(.some 5), (.mov (.c .niliface)), .none⟩]) .ret)))), [(.tmp (.t 4)), (.tmp (.t 5))]⟩
theorem e19 : cfn Tryd.prog Tryd.f19 = some c19 := by kernel_rfl
theorem k19 : callable Tryd.prog 19 = true := by kernel_rfl
end Go.Vc
