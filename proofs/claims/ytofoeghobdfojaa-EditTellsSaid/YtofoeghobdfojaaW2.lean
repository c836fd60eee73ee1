/- Part 2 of the library of this proof. -/
import Derived.Test.YtofoeghobdfojaaW1
import Derived.Orders
import Derived.Lib.SliceRun
set_option linter.all false
namespace Go.Vc
variable {P : Program} {n : Nat}
theorem T.exists {i : VIns} {x : St} {K : St → Prop} (hi : Inf x.σ) (h : T P i x K) : ∃ x', K x' := by
  unfold T at h
  split at h
  · unfold TO at h
    split at h
    · obtain ⟨_, v, _, h⟩ := h; exact ⟨_, h⟩
    · split at h
      · obtain ⟨_, _, v, _, _, h⟩ := h; exact ⟨_, h⟩
      · exact h.elim
    · split at h
      · obtain ⟨_, _, h⟩ := h; exact ⟨_, h⟩
      · exact h.elim
    · obtain ⟨g, _, h⟩ := h
      obtain ⟨id, _, hid⟩ := hi 0
      exact ⟨_, h id hid⟩
    · exact h.elim
  · exact ⟨_, h⟩
  · exact h.elim
theorem T_sound {F : Fr} (hn : F.n = n) {o : Oper} {all : Array Oper} {x : St} {K : St → Prop} {a : Act} {w : World} (h : T P (cins P n all o) x K) (hs : SatF F x a w)
    {next : Act → World → Prop} {Q' : Exit → Act → World → Prop} (hnext : ∀ x' a' w', SatF F x' a' w' → K x' → next a' w') :
    if Region.wanted o (yielded all a.tmps) then o.wp P a w next Q' ∨ (o.asks P a w ∧ LetsOut Q') else next (a.put o.dst undef) w := by
  subst hn
  obtain ⟨μ, hs⟩ := hs
  unfold T at h
  cases hw : wantV x.s (cins P F.n all o).g with
  | none => simp only [hw] at h
  | some b =>
    have hwant := want_of (P := P) hs all o hw
    rw [hwant]
    simp only [hw] at h
    cases b
    · simp only [Bool.false_eq_true, if_false] at h ⊢
      exact hnext _ _ _ ⟨μ, hs.pure (d := o.dst) (by simp only [Rep]; exact ⟨[], rfl, by simp [RepAll]⟩)⟩ h
    · simp only [if_true] at h ⊢
      left
      have hdst : (cins P F.n all o).dst = o.dst.filter (· < F.n) := rfl
      have hopc : (cins P F.n all o).op = cop P F.n o.op := rfl
      rw [hdst, hopc] at h
      unfold TO at h
      split at h
      · obtain ⟨h1, v, h2, h3⟩ := h
        obtain ⟨z, hz, hr⟩ := vpure_sound hs o h1 h2
        unfold Oper.wp
        rw [hz]
        exact hnext _ _ _ ⟨μ, hs.pure hr⟩ h3
      · split at h
        · rename_i fx xs hop
          obtain ⟨f, caps, v, h1, h2, h3⟩ := h
          obtain ⟨f0, args, argTypes, g1, rfl, rfl⟩ := cop_call hop
          refine call_sound hs g1 h1 (h2 _ (SubStore.refl _)) fun r σ' hp a' w' hs' => ?_
          obtain ⟨rfl, rfl⟩ := hp
          exact hnext _ a' w' hs' h3
        · exact h.elim
      · split at h
        · rename_i sz xa xv hop
          obtain ⟨σ', h1, h2⟩ := h
          obtain ⟨t, y, z, g1, g2, rfl, rfl, rfl⟩ := cop_store hop
          unfold storeS at h1
          split at h1
          · rename_i id r0 c e1
            split at h1
            · rename_i ob e2
              split at h1
              · rename_i r e3
                split at h1
                · rename_i r' e4
                  simp only [Option.some.injEq] at h1
                  subst h1
                  obtain ⟨w', hx, hs'⟩ := store_sound hs g1 g2 e1 e2 e3 e4
                  unfold Oper.wp
                  rw [hx]
                  exact hnext _ _ _ ⟨μ, hs'⟩ h2
                · cases h1
              · cases h1
            · cases h1
          · cases h1
        · exact h.elim
      · obtain ⟨g, hg, h⟩ := h
        cases hop : cop P F.n o.op <;> rw [hop] at hg
        case box e sz xv =>
          simp only [eff] at hg
          split at hg
          · rename_i hc
            simp only [Option.some.injEq] at hg
            subst hg
            obtain ⟨y, g1, g2, rfl, rfl⟩ := cop_box hop
            obtain ⟨id, hid, z, w', μ', hz, hs'⟩ := box_sound hs g1 g2 hc.1 hc.2
            unfold Oper.wp
            rw [hz]
            exact hnext _ _ _ ⟨μ', hs'⟩ (h id hid)
          · cases hg
        case alloc e sz z =>
          simp only [eff, Option.some.injEq] at hg
          subst hg
          obtain ⟨ti, zv, g1, g2, rfl, rfl⟩ := cop_alloc hop
          obtain ⟨id, hid, y, w', μ', hy, hs'⟩ := alloc_sound hs g1 g2
          unfold Oper.wp
          rw [hy]
          exact hnext _ _ _ ⟨μ', hs'⟩ (h id hid)
        case bslice e sz xs =>
          simp only [eff] at hg
          split at hg
          · rename_i hc
            simp only [Option.some.injEq] at hg
            subst hg
            obtain ⟨t, len, parts, ti, z, h1, h2, h3, rfl, h5, h6, rfl⟩ := cop_bslice hop
            have hx : ∀ y ∈ parts.toList.map (fun p => (cx F.n p.2).ev x.s), y.cells.length = ti.size ∧ y.stays = true := by
              intro y hy
              have := List.all_eq_true.1 hc y (by rw [List.map_map]; exact hy)
              simpa using this
            obtain ⟨id, hid, y, w', μ', hy, hs'⟩ := bslice_sound hs h1 h2 h3 h5 h6 hx
            unfold Oper.wp
            rw [hy]
            have hl : parts.size = len := by have := congrArg List.length h5; simpa using this
            refine hnext _ _ _ ⟨μ', hs'⟩ ?_
            have := h id hid
            simpa only [List.length_map, List.map_map, Array.length_toList, hl, Function.comp_def] using this
          · cases hg
        case mk e sz bytes zv y =>
          simp only [eff] at hg
          split at hg
          · rename_i m hm
            split at hg
            · rename_i hc
              simp only [Option.some.injEq] at hg
              subst hg
              obtain ⟨t, l', c, ti, z, g1, g2, g3, rfl, rfl, rfl, g5, rfl⟩ := cop_mk hop
              obtain ⟨id, hid, x', w', μ', hx', hs'⟩ := mk_sound hs g1 g5 g2 g3 hm hc.1 hc.2
              unfold Oper.wp
              rw [hx']
              exact hnext _ _ _ ⟨μ', hs'⟩ (h id hid)
            · cases hg
          · cases hg
        case appz e sz bytes zv ya y =>
          simp only [eff] at hg
          split at hg
          · rename_i kq m hy hm
            split at hg
            · rename_i hc
              simp only [Option.some.injEq] at hg
              subst hg
              obtain ⟨t, tn, kn, x1, y1, args, argTypes, ti, z, g1, g2, g3, g4, g5, g6, rfl, rfl, rfl, rfl, rfl⟩ := cop_appz hop
              obtain ⟨id, hid, x', w', μ', hx', hs'⟩ := appz_sound hs g1 g2 g3 g4 g5 g6 hy hm hc.1 hc.2
              unfold Oper.wp
              rw [hx']
              exact hnext _ _ _ ⟨μ', hs'⟩ (h id hid)
            · cases hg
          · cases hg
        case append e sz bytes xa xb =>
          simp only [eff] at hg
          split at hg
          · rename_i base idA src e1 e2
            split at hg
            · rename_i hb
              simp only [Option.some.injEq] at hg
              subst hg
              obtain ⟨t, y, z, args, argTypes, ti, zv, g1, g2, g3, g4, g5, rfl, rfl, rfl, rfl⟩ := cop_append hop
              obtain ⟨id, hid, r, w', μ', hx, hs'⟩ := append_sound hs g1 g2 g3 g4 g5 e1 e2 hb
              unfold Oper.wp
              rw [hx]
              exact hnext _ _ _ ⟨μ', hs'⟩ (h id hid)
            · cases hg
          · cases hg
        all_goals simp [eff] at hg
      · exact h.elim
def Tn (P : Program) (n : Nat) (ops : Array Oper) (i : Nat) (x : St) (K : St → Prop) : Prop := match ops[i]? with
  | some o => T P (cins P n ops o) x K
  | none => K x
def wpAnyT (P : Program) (n : Nat) (ops : Array Oper) (Q : St → Prop) : Nat → Array Bool → St → Prop
  | 0, listed, x => Region.ready .any ops listed = [] ∧ Q x
  | f + 1, listed, x => (Region.ready .any ops listed = [] → Q x) ∧ ∀ i ∈ Region.ready .any ops listed, Tn P n ops i x (wpAnyT P n ops Q f (listed.setIfInBounds i true))
theorem wpAny_of_T {F : Fr} (hn : F.n = n) {ops : Array Oper} {Q : St → Prop} {Q' : Exit → Act → World → Prop} (hQ : ∀ x a w, SatF F x a w → Q x → Q' .normal a w) :
    ∀ (f : Nat) (listed : Array Bool) (x : St) (a : Act) (w : World), SatF F x a w → wpAnyT P n ops Q f listed x → wpAny P .any ops Q' f listed a w
  | 0, _, _, _, _, hs, h => ⟨h.1, hQ _ _ _ hs h.2⟩
  | f + 1, listed, x, a, w, hs, h => by
    refine ⟨fun h0 => hQ _ _ _ hs (h.1 h0), fun i hi => ?_⟩
    have h1 := h.2 i hi
    unfold Tn at h1
    unfold wpOp
    cases ho : ops[i]? with
    | none =>
      simp only [ho] at h1
      exact wpAny_of_T hn hQ f _ x a w hs h1
    | some o =>
      simp only [ho] at h1
      exact T_sound hn h1 hs fun x' a' w' hs' hk => wpAny_of_T hn hQ f _ x' a' w' hs' hk
/-- what is listed waits for nothing that is not -/
def Closed (ops : Array Oper) (listed : Array Bool) : Prop := ∀ m om, ops[m]? = some om → listed.getD m true = true → ∀ e ∈ om.after, Region.binds .any e = true → listed.getD e.on false = true
theorem Closed.list {ops : Array Oper} {listed : Array Bool} (h : Closed ops listed) {i : Nat} (hi : i ∈ Region.ready .any ops listed) : Closed ops (listed.setIfInBounds i true) := by
  intro m om hm hl e he hb
  by_cases hmi : m = i
  · subst hmi
    obtain ⟨_, o, ho, hall⟩ := mem_ready.1 hi
    rw [hm] at ho
    cases ho
    exact getD_set_true (hall e he hb)
  · rw [getD_set_ne true (Ne.symm hmi)] at hl
    exact getD_set_true (h m om hm hl e he hb)
theorem foldl_bits {f : Edge → Nat} (l : List Edge) : ∀ (s : Nat) (i : Nat), (l.foldl (fun s e => if Region.binds .any e then s ||| 2 ^ e.on ||| f e else s) s).testBit i = true →
    s.testBit i = true ∨ ∃ e ∈ l, Region.binds .any e = true ∧ (i = e.on ∨ (f e).testBit i = true) := by
  induction l with
  | nil => intro s i h; exact .inl h
  | cons e l ih =>
    intro s i h
    simp only [List.foldl_cons] at h
    rcases ih _ i h with h1 | ⟨e', h2, h3, h4⟩
    · by_cases hb : Region.binds .any e = true
      · rw [if_pos hb] at h1
        simp only [Nat.testBit_or, Bool.or_eq_true, Nat.testBit_two_pow] at h1
        rcases h1 with (h1 | h1) | h1
        · exact .inl h1
        · exact .inr ⟨e, by simp, hb, .inl (by simpa using (of_decide_eq_true h1).symm)⟩
        · exact .inr ⟨e, by simp, hb, .inr h1⟩
      · rw [if_neg hb] at h1; exact .inl h1
    · exact .inr ⟨e', by simp [h2], h3, h4⟩
theorem before_spec {ops : Array Oper} {listed : Array Bool} (hc : Closed ops listed) : ∀ (j : Nat) (oj : Oper) (i : Nat), ops[j]? = some oj → ((Region.before ops).getD j 0).testBit i = true →
    (∀ e ∈ oj.after, Region.binds .any e = true → listed.getD e.on false = true) → listed.getD i false = true := by
  -- by the list of operations, from the left
  have key : ∀ (l : List Oper) (acc : Array Nat) (k : Nat), acc.size = k → (∀ j, l[j]? = ops[k + j]?) →
      (∀ j oj i, j < k → ops[j]? = some oj → (acc.getD j 0).testBit i = true → (∀ e ∈ oj.after, Region.binds .any e = true → listed.getD e.on false = true) → listed.getD i false = true) →
      ∀ j oj i, ops[j]? = some oj → ((l.foldl (fun acc o => acc.push (o.after.foldl (fun s e => if Region.binds .any e then s ||| 2 ^ e.on ||| acc.getD e.on 0 else s) 0)) acc).getD j 0).testBit i = true →
        (∀ e ∈ oj.after, Region.binds .any e = true → listed.getD e.on false = true) → listed.getD i false = true := by
    intro l
    induction l with
    | nil =>
      intro acc k hk hl h j oj i hj hb hd
      have hlt : j < k := by
        rcases Nat.lt_or_ge j k with h1 | h1
        · exact h1
        · have := hl (j - k)
          rw [show k + (j - k) = j by omega, hj] at this
          simp at this
      exact h j oj i hlt hj hb hd
    | cons o l ih =>
      intro acc k hk hl h
      have hok : ops[k]? = some o := by simpa using (hl 0).symm
      refine ih _ (k + 1) (by simp [hk]) (fun j => by have := hl (j + 1); simpa [Nat.add_assoc, Nat.add_comm 1 j] using this) ?_
      intro j oj i hj hoj hb hd
      by_cases hjk : j = k
      · subst hjk
        rw [hoj] at hok
        cases hok
        rw [Array.getD_eq_getD_getElem?, ← hk, Array.getElem?_push_size] at hb
        simp only [Option.getD_some] at hb
        rw [← Array.foldl_toList] at hb
        rcases foldl_bits (f := fun e => acc.getD e.on 0) o.after.toList 0 i hb with h1 | ⟨e, he, hbd, h1 | h1⟩
        · simp at h1
        · rw [h1]; exact hd e (by simpa using he) hbd
        · have hel := hd e (by simpa using he) hbd
          by_cases hek : e.on < acc.size
          · have hex : e.on < ops.size := by
              have := (Array.getElem?_eq_some_iff.1 hoj).1
              omega
            have hoe : ops[e.on]? = some ops[e.on] := Array.getElem?_eq_getElem hex
            refine h e.on _ i (by omega) hoe h1 (hc e.on _ hoe ?_)
            have hsz : e.on < listed.size := by
              rcases Nat.lt_or_ge e.on listed.size with h2 | h2
              · exact h2
              · simp [Array.getElem?_eq_none h2] at hel
            simp only [Array.getD_eq_getD_getElem?, Array.getElem?_eq_getElem hsz, Option.getD_some] at hel ⊢
            exact hel
          · rw [Array.getD_eq_getD_getElem?, Array.getElem?_eq_none (by omega)] at h1
            simp at h1
      · have hjlt : j < k := by omega
        rw [Array.getD_eq_getD_getElem?, Array.getElem?_push_lt (by omega)] at hb
        refine h j oj i hjlt hoj ?_ hd
        rw [Array.getD_eq_getD_getElem?, Array.getElem?_eq_getElem (by omega)]
        exact hb
  intro j oj i hj hb hd
  unfold Region.before at hb
  rw [← Array.foldl_toList] at hb
  exact key ops.toList #[] 0 rfl (by simp) (fun j oj i h => by omega) j oj i hj hb hd
theorem wpAnyT_first {ops : Array Oper} {Q : St → Prop} {i : Nat} {oi : Oper} (hi : ops[i]? = some oi) : ∀ (f : Nat) (listed : Array Bool) (x : St), Inf x.σ → Closed ops listed →
    (∀ j oj, ops[j]? = some oj → j ≠ i → listed.getD j true = false → ((Region.before ops).getD j 0).testBit i = false → okPair (cins P n ops oi) (cins P n ops oj) = true) →
    i ∈ Region.ready .any ops listed → T P (cins P n ops oi) x (wpAnyT P n ops Q f (listed.setIfInBounds i true)) → wpAnyT P n ops Q (f + 1) listed x := by
  intro f
  induction f with
  | zero =>
    intro listed x hinf _ _ hr H
    refine ⟨fun h => (by rw [h] at hr; cases hr), fun j hj => ?_⟩
    by_cases hji : j = i
    · subst hji; unfold Tn; simp only [hi]; exact H
    · have := ready_mono hj hji
      obtain ⟨x', hx'⟩ := H.exists hinf
      rw [hx'.1] at this
      cases this
  | succ f ih =>
    intro listed x hinf hcl hfree hr H
    refine ⟨fun h => (by rw [h] at hr; cases hr), fun j hj => ?_⟩
    by_cases hji : j = i
    · subst hji; unfold Tn; simp only [hi]; exact H
    · obtain ⟨hjun, oj, hoj, hall⟩ := mem_ready.1 hj
      have hnot : ((Region.before ops).getD j 0).testBit i = false := by
        cases hb : ((Region.before ops).getD j 0).testBit i with
        | false => rfl
        | true =>
          exfalso
          have h1 := before_spec hcl j oj i hoj hb hall
          have h0 := (mem_ready.1 hr).1
          rcases Nat.lt_or_ge i listed.size with h' | h'
          · simp [h'] at h0 h1; rw [h0] at h1; cases h1
          · simp [Array.getElem?_eq_none h'] at h1
      have H2 : T P (cins P n ops oi) x fun x' => T P (cins P n ops oj) x' (wpAnyT P n ops Q f ((listed.setIfInBounds i true).setIfInBounds j true)) := by
        refine H.mono fun x' hx' => ?_
        have := hx'.2 j (ready_mono hj hji)
        unfold Tn at this
        simpa only [hoj] using this
      have h2 := T_swap (hfree j oj hoj hji hjun hnot) hinf H2
      have hfree' : ∀ k ok, ops[k]? = some ok → k ≠ i → (listed.setIfInBounds j true).getD k true = false →
          ((Region.before ops).getD k 0).testBit i = false → okPair (cins P n ops oi) (cins P n ops ok) = true := fun k ok hk hki hun hno => by
        refine hfree k ok hk hki ?_ hno
        by_cases hjk : j = k
        · subst hjk; exact hjun
        · rw [getD_set_ne true hjk] at hun; exact hun
      unfold Tn
      simp only [hoj]
      refine (h2.inf hinf).mono fun x' hx' => ih (listed.setIfInBounds j true) x' hx'.1 (hcl.list hj) hfree' (ready_mono hr (Ne.symm hji)) ?_
      rw [Array.setIfInBounds_comm _ _ hji]
      exact hx'.2
theorem freeC_spec {ops : Array Oper} {k : Nat} {ok : Oper} {listed : Array Bool} (hk : ops[k]? = some ok) (h : freeC P n ops k listed = true) (j : Nat) (oj : Oper) (hj : ops[j]? = some oj) (hne : j ≠ k)
    (hun : listed.getD j true = false) (hno : ((Region.before ops).getD j 0).testBit k = false) : okPair (cins P n ops ok) (cins P n ops oj) = true := by
  unfold freeC at h
  simp only [hk] at h
  have hjlt : j < ops.size := (Array.getElem?_eq_some_iff.1 hj).1
  have := List.all_eq_true.1 h j (List.mem_range.2 hjlt)
  simp only [hj, hun, hno, Bool.or_false, Bool.false_or, Bool.or_eq_true, beq_iff_eq, hne, false_or] at this
  exact this
/-- one behind the other -/
def TChain (P : Program) (Q : St → Prop) : List VIns → St → Prop
  | [], x => Q x
  | i :: l, x => T P i x (TChain P Q l)
theorem wpAnyT_lex {ops : Array Oper} {Q : St → Prop} : ∀ (l : List Oper) (k : Nat) (listed : Array Bool) (x : St), Inf x.σ → Closed ops listed → (∀ j, l[j]? = ops[k + j]?) →
    lexC P n ops l.length k listed = true → TChain P Q (l.map (cins P n ops)) x → wpAnyT P n ops Q l.length listed x
  | [], _, _, _, _, _, _, hB, h => ⟨by simpa [lexC] using hB, h⟩
  | o :: l, k, listed, x, hinf, hcl, hl, hB, h => by
    have h0 : ops[k]? = some o := by simpa using (hl 0).symm
    simp only [List.length_cons, lexC, Bool.and_eq_true] at hB
    obtain ⟨⟨hr, hf⟩, hB'⟩ := hB
    refine wpAnyT_first h0 l.length listed x hinf hcl (freeC_spec h0 hf) (by simpa using hr) ?_
    refine (T.inf hinf h).mono fun x' hx' => ?_
    exact wpAnyT_lex l (k + 1) _ x' hx'.1 (hcl.list (by simpa using hr)) (fun j => by have := hl (j + 1); simpa [Nat.add_assoc, Nat.add_comm 1 j] using this) hB' hx'.2
theorem region_sound {F : Fr} (hn : F.n = n) {ops : Array Oper} (hok : drawOk P n ops = true) {id : Nat} {x : St} {a : Act} {w : World} (hs : SatF F x a w) {Q : St → Prop} {Q' : Exit → Act → World → Prop}
    (hQ : ∀ x a w, SatF F x a w → Q x → Q' .normal a w) (h : TChain P Q (ops.toList.map (cins P n ops)) x) : (Code.region id ops true).wp P Q' a w := by
  simp only [drawOk, Bool.and_eq_true] at hok
  have hs' : SatF F x a { w with drawn := w.drawn + 1 } := by
    obtain ⟨μ, hs⟩ := hs
    have hk : Keeps (Owned μ x.σ) (Owned μ x.σ) w { w with drawn := w.drawn + 1 } := fun _ _ h => ⟨h, rfl⟩
    refine ⟨μ, ⟨⟨hs.sat.size, hs.sat.os, hs.sat.tape, hs.sat.output, hs.sat.same, hs.sat.fin, hs.sat.inj, fun id o ho => ?_, hs.sat.fresh⟩, hs.le, hs.size, hs.defers, fun i hi => ?_⟩⟩
    · exact (hs.sat.obj id o ho).mono (MuLe.refl μ) hk (Nat.le_refl _) (fun _ _ _ _ => rfl)
    · exact Rep.mono (MuLe.refl μ) hk (Nat.le_refl _) _ _ (hs.slot i hi)
  refine wp_region_any hok.1 (wpAny_of_T hn hQ _ _ _ _ _ hs' ?_)
  have := wpAnyT_lex (P := P) (n := n) (Q := Q) ops.toList 0 (Array.replicate ops.size false) x hs.inf (fun m om hm hl => by
    have hlt : m < ops.size := (Array.getElem?_eq_some_iff.1 hm).1
    rw [Array.getD_eq_getD_getElem?, Array.getElem?_replicate, if_pos hlt] at hl
    simp at hl) (by simp) (by simpa using hok.2) h
  simpa using this
end Go.Vc
namespace Go.Vc
variable {P : Program} {n : Nat} {st : St} {Q : St → Prop} {k : List It}
theorem Runs.dregion {l : List VIns} (h : TChain P (fun x => Runs P n k x Q) l st) : Runs P n (.code (.reg true l) :: k) st Q := by
  intro F hn kt hk a w hs
  obtain ⟨z, kt', rfl, hy, hk'⟩ := kt_cons hk
  obtain ⟨c0, rfl, hcc⟩ := it_code hy
  have hc0 : ∃ id ops, c0 = .region id ops true ∧ drawOk P n ops = true ∧ ops.toList.map (cins P n ops) = l := by
    cases c0 <;> simp only [ccode, reduceCtorEq] at hcc
    rename_i id ops draw
    cases draw
    · simp at hcc
    · simp only [Bool.true_and] at hcc
      split at hcc
      · cases hcc
      · rename_i hd
        simp only [VCode.reg.injEq, true_and] at hcc
        exact ⟨id, ops, rfl, by simpa using hd, hcc⟩
  obtain ⟨id, ops, rfl, hok, rfl⟩ := hc0
  exact region_sound hn hok hs (fun x a w hs h => h F hn kt' hk' a w hs) h
/-- a slot is known to hold this -/
def St.lit (st : St) : VX → V → St
  | .t d, v => ⟨putO st.s (some d) v, st.σ⟩
  | .c _, _ => st
/-- what is left: as ever, or in the midst of a region that draws -/
inductive Td where
  | r (todo : List It)
  | d (l : List VIns) (todo : List It)
def Go (P : Program) (n : Nat) (t : Td) (st : St) (Q : St → Prop) : Prop :=
  match t with
  | .r todo => Runs P n todo st Q
  | .d l todo => TChain P (fun x => Runs P n todo x Q) l st
def onSome {α : Type} (o : Option α) (k : α → Prop) : Prop := match o with
  | some v => k v
  | none => False
theorem onSome_some {α : Type} (v : α) (k : α → Prop) : onSome (some v) k = k v := rfl
theorem onSome_iff {α : Type} {o : Option α} {k : α → Prop} : onSome o k ↔ ∃ v, o = some v ∧ k v := by cases o <;> simp [onSome]
def onBool (v : V) (k : Bool → Prop) (z : Prop) : Prop := match v with
  | .bool c => k c
  | .tup [] => z
  | .int _ _ => z
  | _ => False
theorem onBool_cases {v : V} {k : Bool → Prop} {z : Prop} (h : onBool v k z) : (∃ c, v = .bool c ∧ k c) ∨ (v = .tup [] ∧ z) ∨ (∃ q m, v = .int q m ∧ z) := by
  unfold onBool at h
  split at h
  · exact .inl ⟨_, rfl, h⟩
  · exact .inr (.inl ⟨rfl, h⟩)
  · exact .inr (.inr ⟨_, _, rfl, h⟩)
  · exact h.elim
/-- on a test's value, both ways -/
def both (c b : Bool) (x y : Prop) : Prop := (c = b → x) ∧ (c = !b → y)
def storeOp (s : Nat → V) (σ : Store) : VOp → Option Store
  | .store sz xa xv => storeS σ sz (xa.ev s) (xv.ev s)
  | _ => none
/-- what calls answer, where that is known: they change nothing -/
structure Orc (P : Program) where
  get : FuncId → List V → Store → Option V
  ok : ∀ f args σ v, get f args σ = some v → Contract P f args σ fun r σ' => r = v ∧ σ' = σ
  up : ∀ f args σ σ' v, SubStore σ σ' → get f args σ = some v → get f args σ' = some v := by intros; assumption
def Orc.nothing : Orc P where
  get _ _ _ := none
  ok _ _ _ _ h := by cases h
def callV (O : Orc P) (s : Nat → V) (σ : Store) : VOp → Option V
  | .call fx xs => match fx.ev s with
      | .fn f caps => O.get f (xs.map (·.ev s) ++ caps) σ
      | _ => none
  | _ => none
def onCall (o : Option V) (k : V → Prop) (z : Prop) : Prop := match o with
  | some v => k v
  | none => z
theorem onCall_cases {o : Option V} {k : V → Prop} {z : Prop} (h : onCall o k z) : (∃ v, o = some v ∧ k v) ∨ z := by
  cases o with
  | none => exact .inr h
  | some v => exact .inl ⟨v, rfl, h⟩
def onKind5 (q : Nat) (a b c d g : Prop) : Prop := match q with
  | 0 => a
  | 1 => b
  | 2 => c
  | 3 => d
  | _ => g
theorem onKind5_cases {q : Nat} {a b c d g : Prop} (h : onKind5 q a b c d g) : (q = 0 ∧ a) ∨ (q = 1 ∧ b) ∨ (q = 2 ∧ c) ∨ (q = 3 ∧ d) ∨ g := by
  unfold onKind5 at h
  split at h <;> simp_all
/-- an instruction that is wanted; k: what comes behind it; z: where it is not stepped over -/
def insK (O : Orc P) (q : Nat) (d : Option Nat) (op : VOp) (st : St) (k : St → Prop) (z : Prop) : Prop :=
  onKind5 q (vpre st.s op ∧ onSome (vpure st.σ st.s op) fun v => k ⟨putO st.s d v, st.σ⟩)
    (onCall (callV O st.s st.σ op) (fun v => k ⟨putO st.s d v, st.σ⟩) z)
    (onSome (storeOp st.s st.σ op) fun σ' => k ⟨putO st.s d (.tup []), σ'⟩)
    (onSome (eff st.s st.σ op) fun g => ∀ id, st.σ id = none → k ⟨putO st.s d (g id).1, (g id).2⟩) z
def step (P : Program) (O : Orc P) (n : Nat) : Nat → Td → St → (St → Prop) → Prop
  | 0, t, st, Q => Go P n t st Q
  | f + 1, t, st, Q => match t with
    | .d l k => match l with
      | [] => step P O n f (.r k) st Q
      | i :: l => match i.g with
        | none => insK O (okind i.op) i.dst i.op st (fun st => step P O n f (.d l k) st Q) (Go P n (.d (i :: l) k) st Q)
        | some (x, b) => onBool (x.ev st.s) (fun c => both c b
            (insK O (okind i.op) i.dst i.op (st.lit x (.bool b)) (fun st => step P O n f (.d l k) st Q) (Go P n (.d (i :: l) k) (st.lit x (.bool b)) Q))
            (step P O n f (.d l k) ⟨putO (st.lit x (.bool !b)).s i.dst (.tup []), (st.lit x (.bool !b)).σ⟩ Q))
            (step P O n f (.d l k) ⟨putO st.s i.dst (.tup []), st.σ⟩ Q)
    | .r todo => match todo with
      | [] => Q st
      | .stop I :: _ => I st
      | .inBlock _ :: k => step P O n f (.r k) st Q
      | .ops [] :: k => step P O n f (.r k) st Q
      | .ops (i :: l) :: k => match i.g with
        | none => insK O (okind i.op) i.dst i.op st (fun st => step P O n f (.r (.ops l :: k)) st Q) (Runs P n (.ops (i :: l) :: k) st Q)
        | some (x, b) => onBool (x.ev st.s) (fun c => both c b
            (insK O (okind i.op) i.dst i.op (st.lit x (.bool b)) (fun st => step P O n f (.r (.ops l :: k)) st Q) (Runs P n (.ops (i :: l) :: k) (st.lit x (.bool b)) Q))
            (step P O n f (.r (.ops l :: k)) ⟨putO (st.lit x (.bool !b)).s i.dst (.tup []), (st.lit x (.bool !b)).σ⟩ Q))
            (step P O n f (.r (.ops l :: k)) ⟨putO st.s i.dst (.tup []), st.σ⟩ Q)
      | .code c :: k => match c with
        | .skip => step P O n f (.r k) st Q
        | .seq a b => step P O n f (.r (.code a :: .code b :: k)) st Q
        | .block id a => step P O n f (.r (.code a :: .inBlock id :: k)) st Q
        | .exit id => onSome (popTo id k) fun k' => step P O n f (.r k') st Q
        | .ret => Q st
        | .cond c a b => onBool (c.ev st.s) (fun t => both t true (step P O n f (.r (.code a :: k)) st Q) (step P O n f (.r (.code b :: k)) st Q)) False
        | .reg draw l => match draw with
          | false => step P O n f (.r (.ops l :: k)) st Q
          | true => step P O n f (.d l k) st Q
        | .loop a => Runs P n (.code (.loop a) :: k) st Q
        | .bad => False
theorem lit_eq {st : St} {x : VX} {v : V} (h : x.ev st.s = v) : st.lit x v = st := by
  cases x with
  | t d =>
    simp only [VX.ev] at h
    have : putO st.s (some d) v = st.s := by
      funext i
      simp only [putO]
      split
      · rename_i e; rw [e, h]
      · rfl
    simp [St.lit, this]
  | c _ => rfl
theorem Runs.storeS {i : VIns} {l : List VIns} {sz : Nat} {xa xv : VX} (hw : wantV st.s i.g = some true) (ho : i.op = .store sz xa xv) {σ' : Store}
    (h1 : Vc.storeS st.σ sz (xa.ev st.s) (xv.ev st.s) = some σ') (h : Runs P n (.ops l :: k) ⟨putO st.s i.dst (.tup []), σ'⟩ Q) : Runs P n (.ops (i :: l) :: k) st Q := by
  unfold Vc.storeS at h1
  split at h1
  · rename_i id r0 c e1
    split at h1
    · rename_i ob e2
      split at h1
      · rename_i r e3
        split at h1
        · rename_i r' e4
          simp only [Option.some.injEq] at h1
          subst h1
          exact Runs.store hw ho e1 e2 e3 e4 h
        · cases h1
      · cases h1
    · cases h1
  · cases h1
theorem Runs.eff {i : VIns} {l : List VIns} (hw : wantV st.s i.g = some true) {g : Nat → V × Store} (hg : Vc.eff st.s st.σ i.op = some g)
    (h : ∀ id, st.σ id = none → Runs P n (.ops l :: k) ⟨putO st.s i.dst (g id).1, (g id).2⟩ Q) : Runs P n (.ops (i :: l) :: k) st Q := by
  cases hop : i.op <;> rw [hop] at hg <;> simp only [Vc.eff, reduceCtorEq] at hg
  case box e sz xv =>
    split at hg
    · rename_i hc
      simp only [Option.some.injEq] at hg
      subst hg
      exact Runs.box hw hop hc.1 hc.2 h
    · cases hg
  case alloc e sz z =>
    simp only [Option.some.injEq] at hg
    subst hg
    exact Runs.alloc hw hop h
  case bslice e sz xs =>
    split at hg
    · rename_i hc
      simp only [Option.some.injEq] at hg
      subst hg
      refine Runs.bslice hw hop (fun x hx => ?_) h
      have := List.all_eq_true.1 hc x hx
      simpa using this
    · cases hg
  case mk e sz bytes zv x =>
    split at hg
    · rename_i m hm
      split at hg
      · rename_i hc
        simp only [Option.some.injEq] at hg
        subst hg
        exact Runs.mkS hw hop hm hc.1 hc.2 h
      · cases hg
    · cases hg
  case appz e sz bytes zv y x =>
    split at hg
    · rename_i kq m hy hm
      split at hg
      · rename_i hc
        simp only [Option.some.injEq] at hg
        subst hg
        exact Runs.appzS hw hop hy hm hc.1 hc.2 h
      · cases hg
    · cases hg
  case append e sz bytes xa xb =>
    split at hg
    · rename_i base idA src e1 e2
      split at hg
      · rename_i hb
        simp only [Option.some.injEq] at hg
        subst hg
        exact Runs.append hw hop e1 e2 hb h
      · cases hg
    · cases hg
theorem T_true {i : VIns} {K : St → Prop} (hw : wantV st.s i.g = some true) (h : TO P i.dst i.op st K) : T P i st K := by unfold T; simp only [hw]; exact h
theorem T_false {i : VIns} {K : St → Prop} (hw : wantV st.s i.g = some false) (h : K ⟨putO st.s i.dst (.tup []), st.σ⟩) : T P i st K := by unfold T; simp only [hw]; exact h
theorem callV_some {O : Orc P} {s : Nat → V} {σ : Store} {op : VOp} {v : V} (h : callV O s σ op = some v) :
    ∃ fx xs f caps, op = .call fx xs ∧ fx.ev s = .fn f caps ∧ ∀ σ1, SubStore σ σ1 → Contract P f (xs.map (·.ev s) ++ caps) σ1 fun r σ' => r = v ∧ σ' = σ1 := by
  unfold callV at h
  split at h
  · rename_i fx xs
    split at h
    · rename_i f caps hf
      exact ⟨fx, xs, f, caps, rfl, hf, fun σ1 h1 => O.ok _ _ _ _ (O.up _ _ _ _ _ h1 h)⟩
    · cases h
  · cases h
theorem Runs.of_ins {O : Orc P} {i : VIns} {l : List VIns} {st : St} (hw : wantV st.s i.g = some true) {K : St → Prop} (hK : ∀ st, K st → Runs P n (.ops l :: k) st Q)
    (h : insK O (okind i.op) i.dst i.op st K (Runs P n (.ops (i :: l) :: k) st Q)) : Runs P n (.ops (i :: l) :: k) st Q := by
  unfold insK at h
  rcases onKind5_cases h with ⟨_, h1, h⟩ | ⟨_, h⟩ | ⟨_, h⟩ | ⟨_, h⟩ | h
  · obtain ⟨v, hv, h⟩ := onSome_iff.1 h
    exact Runs.pure hw h1 hv (hK _ h)
  · rcases onCall_cases h with ⟨v, hv, h⟩ | h
    · obtain ⟨fx, xs, f, caps, ho, hf, hc⟩ := callV_some hv
      refine Runs.call hw ho hf (hc _ (SubStore.refl _)) ?_
      rintro r σ' ⟨rfl, rfl⟩
      exact hK _ h
    · exact h
  · obtain ⟨σ', hs, h⟩ := onSome_iff.1 h
    cases hop : i.op <;> rw [hop] at hs <;> simp only [storeOp, reduceCtorEq] at hs
    exact Runs.storeS hw hop hs (hK _ h)
  · obtain ⟨g, hgg, h⟩ := onSome_iff.1 h
    exact Runs.eff hw hgg fun id hid => hK _ (h id hid)
  · exact h
theorem Go.of_ins {O : Orc P} {i : VIns} {l : List VIns} {st : St} (hw : wantV st.s i.g = some true) {K : St → Prop} (hK : ∀ st, K st → Go P n (.d l k) st Q)
    (h : insK O (okind i.op) i.dst i.op st K (Go P n (.d (i :: l) k) st Q)) : Go P n (.d (i :: l) k) st Q := by
  unfold insK at h
  rcases onKind5_cases h with ⟨hk, h1, h⟩ | ⟨hk, h⟩ | ⟨_, h⟩ | ⟨hk, h⟩ | h
  · obtain ⟨v, hv, h⟩ := onSome_iff.1 h
    refine T_true hw ?_
    unfold TO
    simp only [hk]
    exact ⟨h1, v, hv, hK _ h⟩
  · rcases onCall_cases h with ⟨v, hv, h⟩ | h
    · obtain ⟨fx, xs, f, caps, ho, hf, hc⟩ := callV_some hv
      refine T_true hw ?_
      rw [ho]
      exact ⟨f, caps, v, hf, hc, hK _ h⟩
    · exact h
  · obtain ⟨σ', hs, h⟩ := onSome_iff.1 h
    refine T_true hw ?_
    cases hop : i.op <;> rw [hop] at hs <;> simp only [storeOp, reduceCtorEq] at hs
    exact ⟨σ', hs, hK _ h⟩
  · obtain ⟨g, hgg, h⟩ := onSome_iff.1 h
    refine T_true hw ?_
    unfold TO
    simp only [hk]
    exact ⟨g, hgg, fun id hid => hK _ (h id hid)⟩
  · exact h
theorem Go.of_step (O : Orc P) : ∀ (f : Nat) (t : Td) (st : St), step P O n f t st Q → Go P n t st Q
  | 0, _, _, h => h
  | f + 1, .d [] k, st, h => Go.of_step O f (.r k) st h
  | f + 1, .d (i :: l) k, st, h => by
    simp only [step] at h
    split at h
    · rename_i hg
      have hw : wantV st.s i.g = some true := by simp [hg, wantV]
      exact Go.of_ins hw (fun st h => Go.of_step O f (.d l k) st h) h
    · rename_i x b hg
      rcases onBool_cases h with ⟨c, hc, h⟩ | ⟨hc, h⟩ | ⟨q, m, hc, h⟩
      · by_cases hcb : c = b
        · subst hcb
          have h1 := h.1 rfl
          have hw : wantV st.s i.g = some true := by simp [hg, wantV, hc]
          rw [lit_eq hc] at h1
          exact Go.of_ins hw (fun st h => Go.of_step O f (.d l k) st h) h1
        · have hcb' : c = !b := by revert hcb; cases c <;> cases b <;> simp
          have h2 := h.2 hcb'
          rw [lit_eq (by rw [hc, hcb'])] at h2
          exact T_false (by simp only [hg, wantV, hc]; rw [hcb']; cases b <;> rfl) (Go.of_step O f (.d l k) _ h2)
      · exact T_false (by simp [hg, wantV, hc]) (Go.of_step O f (.d l k) _ h)
      · exact T_false (by simp [hg, wantV, hc]) (Go.of_step O f (.d l k) _ h)
  | f + 1, .r [], _, h => Runs.nil h
  | f + 1, .r (.stop _ :: _), _, h => Runs.stop h
  | f + 1, .r (.inBlock _ :: k), st, h => Runs.inBlock (Go.of_step O f (.r k) st h)
  | f + 1, .r (.ops [] :: k), st, h => Runs.ops_nil (Go.of_step O f (.r k) st h)
  | f + 1, .r (.ops (i :: l) :: k), st, h => by
    simp only [step] at h
    split at h
    · rename_i hg
      have hw : wantV st.s i.g = some true := by simp [hg, wantV]
      exact Runs.of_ins hw (fun st h => Go.of_step O f (.r (.ops l :: k)) st h) h
    · rename_i x b hg
      rcases onBool_cases h with ⟨c, hc, h⟩ | ⟨hc, h⟩ | ⟨q, m, hc, h⟩
      · by_cases hcb : c = b
        · subst hcb
          have h1 := h.1 rfl
          have hw : wantV st.s i.g = some true := by simp [hg, wantV, hc]
          rw [lit_eq hc] at h1
          exact Runs.of_ins hw (fun st h => Go.of_step O f (.r (.ops l :: k)) st h) h1
        · have hcb' : c = !b := by revert hcb; cases c <;> cases b <;> simp
          have h2 := h.2 hcb'
          rw [lit_eq (by rw [hc, hcb'])] at h2
          exact Runs.skipIns (by simp only [hg, wantV, hc]; rw [hcb']; cases b <;> rfl) (Go.of_step O f (.r (.ops l :: k)) _ h2)
      · exact Runs.skipIns (by simp [hg, wantV, hc]) (Go.of_step O f (.r (.ops l :: k)) _ h)
      · exact Runs.skipIns (by simp [hg, wantV, hc]) (Go.of_step O f (.r (.ops l :: k)) _ h)
  | f + 1, .r (.code c :: k), st, h => by
    cases c with
    | skip => exact Runs.skip (Go.of_step O f (.r _) _ h)
    | seq a b => exact Runs.seq (Go.of_step O f (.r _) _ h)
    | block id a => exact Runs.block (Go.of_step O f (.r _) _ h)
    | exit id =>
      simp only [step] at h
      obtain ⟨k', hk', h⟩ := onSome_iff.1 h
      exact Runs.exit hk' (Go.of_step O f (.r _) _ h)
    | ret => exact Runs.ret h
    | cond c a b =>
      simp only [step] at h
      rcases onBool_cases h with ⟨t, ht, h⟩ | ⟨_, h⟩ | ⟨_, _, _, h⟩
      · exact Runs.cond ht (fun e => Go.of_step O f (.r _) _ (h.1 e)) (fun e => Go.of_step O f (.r _) _ (h.2 (by rw [e]; rfl)))
      · exact h.elim
      · exact h.elim
    | reg draw l =>
      cases draw
      · exact Runs.region (Go.of_step O f (.r _) _ h)
      · exact Runs.dregion (Go.of_step O f (.d l k) _ h)
    | loop a => exact h
    | bad => exact h.elim
theorem Runs.of_step (O : Orc P) (f : Nat) {todo : List It} {st : St} (h : step P O n f (.r todo) st Q) : Runs P n todo st Q := Go.of_step O f (.r todo) st h
section rules
variable (P : Program) (O : Orc P) (n : Nat) (f : Nat)
def exR (o : Option (List It)) (st : St) (Q : St → Prop) : Prop := onSome o fun k' => step P O n f (.r k') st Q
def cR (v : V) (a b : VCode) (k : List It) (st : St) (Q : St → Prop) : Prop := onBool v (fun t => both t true (step P O n f (.r (.code a :: k)) st Q) (step P O n f (.r (.code b :: k)) st Q)) False
def contR (l : List VIns) (k : List It) (d : Option Nat) (st : St) (Q : St → Prop) (o : Option V) : Prop := onSome o fun v => step P O n f (.r (.ops l :: k)) ⟨putO st.s d v, st.σ⟩ Q
def storeR (l : List VIns) (k : List It) (d : Option Nat) (st : St) (Q : St → Prop) (o : Option Store) : Prop := onSome o fun σ' => step P O n f (.r (.ops l :: k)) ⟨putO st.s d (.tup []), σ'⟩ Q
def effR (l : List VIns) (k : List It) (d : Option Nat) (st : St) (Q : St → Prop) (o : Option (Nat → V × Store)) : Prop :=
  onSome o fun g => ∀ id, st.σ id = none → step P O n f (.r (.ops l :: k)) ⟨putO st.s d (g id).1, (g id).2⟩ Q
def callR (l : List VIns) (k : List It) (d : Option Nat) (op : VOp) (g : Option (VX × Bool)) (st : St) (Q : St → Prop) (o : Option V) : Prop :=
  onCall o (fun v => step P O n f (.r (.ops l :: k)) ⟨putO st.s d v, st.σ⟩ Q) (Runs P n (.ops (⟨d, op, g⟩ :: l) :: k) st Q)
def insR (q : Nat) (d : Option Nat) (op : VOp) (g : Option (VX × Bool)) (l : List VIns) (k : List It) (st : St) (Q : St → Prop) : Prop :=
  insK O q d op st (fun st => step P O n f (.r (.ops l :: k)) st Q) (Runs P n (.ops (⟨d, op, g⟩ :: l) :: k) st Q)
def gR (v : V) (d : Option Nat) (op : VOp) (x : VX) (b : Bool) (l : List VIns) (k : List It) (st : St) (Q : St → Prop) : Prop :=
  onBool v (fun c => both c b (insR P O n f (okind op) d op (some (x, b)) l k (st.lit x (.bool b)) Q)
    (step P O n f (.r (.ops l :: k)) ⟨putO (st.lit x (.bool !b)).s d (.tup []), (st.lit x (.bool !b)).σ⟩ Q)) (step P O n f (.r (.ops l :: k)) ⟨putO st.s d (.tup []), st.σ⟩ Q)
def contD (l : List VIns) (k : List It) (d : Option Nat) (st : St) (Q : St → Prop) (o : Option V) : Prop := onSome o fun v => step P O n f (.d l k) ⟨putO st.s d v, st.σ⟩ Q
def storeD (l : List VIns) (k : List It) (d : Option Nat) (st : St) (Q : St → Prop) (o : Option Store) : Prop := onSome o fun σ' => step P O n f (.d l k) ⟨putO st.s d (.tup []), σ'⟩ Q
def effD (l : List VIns) (k : List It) (d : Option Nat) (st : St) (Q : St → Prop) (o : Option (Nat → V × Store)) : Prop :=
  onSome o fun g => ∀ id, st.σ id = none → step P O n f (.d l k) ⟨putO st.s d (g id).1, (g id).2⟩ Q
def callD (l : List VIns) (k : List It) (d : Option Nat) (op : VOp) (g : Option (VX × Bool)) (st : St) (Q : St → Prop) (o : Option V) : Prop :=
  onCall o (fun v => step P O n f (.d l k) ⟨putO st.s d v, st.σ⟩ Q) (Go P n (.d (⟨d, op, g⟩ :: l) k) st Q)
def insD (q : Nat) (d : Option Nat) (op : VOp) (g : Option (VX × Bool)) (l : List VIns) (k : List It) (st : St) (Q : St → Prop) : Prop :=
  insK O q d op st (fun st => step P O n f (.d l k) st Q) (Go P n (.d (⟨d, op, g⟩ :: l) k) st Q)
def gD (v : V) (d : Option Nat) (op : VOp) (x : VX) (b : Bool) (l : List VIns) (k : List It) (st : St) (Q : St → Prop) : Prop :=
  onBool v (fun c => both c b (insD P O n f (okind op) d op (some (x, b)) l k (st.lit x (.bool b)) Q)
    (step P O n f (.d l k) ⟨putO (st.lit x (.bool !b)).s d (.tup []), (st.lit x (.bool !b)).σ⟩ Q)) (step P O n f (.d l k) ⟨putO st.s d (.tup []), st.σ⟩ Q)
variable {P O n} {f}
theorem putO_some (s : Nat → V) (d : Nat) (v : V) (i : Nat) : putO s (some d) v i = if i = d then v else s i := rfl
theorem putO_none (s : Nat → V) (v : V) (i : Nat) : putO s none v i = s i := rfl
theorem lit_t (st : St) (d : Nat) (v : V) : st.lit (.t d) v = ⟨putO st.s (some d) v, st.σ⟩ := rfl
theorem lit_c (st : St) (u v : V) : st.lit (.c u) v = st := rfl
theorem ev_t (s : Nat → V) (d : Nat) : VX.ev s (.t d) = s d := rfl
theorem ev_c (s : Nat → V) (v : V) : VX.ev s (.c v) = v := rfl
theorem insR_0 (d : Option Nat) (op : VOp) (g : Option (VX × Bool)) (l : List VIns) : insR P O n f 0 d op g l k st Q = (vpre st.s op ∧ contR P O n f l k d st Q (vpure st.σ st.s op)) := rfl
theorem insR_1 (d : Option Nat) (op : VOp) (g : Option (VX × Bool)) (l : List VIns) : insR P O n f 1 d op g l k st Q = callR P O n f l k d op g st Q (callV O st.s st.σ op) := rfl
theorem insR_2 (d : Option Nat) (op : VOp) (g : Option (VX × Bool)) (l : List VIns) : insR P O n f 2 d op g l k st Q = storeR P O n f l k d st Q (storeOp st.s st.σ op) := rfl
theorem insR_3 (d : Option Nat) (op : VOp) (g : Option (VX × Bool)) (l : List VIns) : insR P O n f 3 d op g l k st Q = effR P O n f l k d st Q (eff st.s st.σ op) := rfl
theorem insR_4 (d : Option Nat) (op : VOp) (g : Option (VX × Bool)) (l : List VIns) : insR P O n f 4 d op g l k st Q = Runs P n (.ops (⟨d, op, g⟩ :: l) :: k) st Q := rfl
theorem callR_some (d : Option Nat) (op : VOp) (g : Option (VX × Bool)) (l : List VIns) (v : V) : callR P O n f l k d op g st Q (some v) = step P O n f (.r (.ops l :: k)) ⟨putO st.s d v, st.σ⟩ Q := rfl
theorem callR_none (d : Option Nat) (op : VOp) (g : Option (VX × Bool)) (l : List VIns) : callR P O n f l k d op g st Q none = Runs P n (.ops (⟨d, op, g⟩ :: l) :: k) st Q := rfl
theorem callV_eq (s : Nat → V) (σ : Store) (fx : VX) (xs : List VX) : callV O s σ (.call fx xs) = match fx.ev s with
      | .fn f caps => O.get f (xs.map (·.ev s) ++ caps) σ
      | _ => none := rfl
theorem insD_0 (d : Option Nat) (op : VOp) (g : Option (VX × Bool)) (l : List VIns) : insD P O n f 0 d op g l k st Q = (vpre st.s op ∧ contD P O n f l k d st Q (vpure st.σ st.s op)) := rfl
theorem insD_1 (d : Option Nat) (op : VOp) (g : Option (VX × Bool)) (l : List VIns) : insD P O n f 1 d op g l k st Q = callD P O n f l k d op g st Q (callV O st.s st.σ op) := rfl
theorem insD_2 (d : Option Nat) (op : VOp) (g : Option (VX × Bool)) (l : List VIns) : insD P O n f 2 d op g l k st Q = storeD P O n f l k d st Q (storeOp st.s st.σ op) := rfl
theorem insD_3 (d : Option Nat) (op : VOp) (g : Option (VX × Bool)) (l : List VIns) : insD P O n f 3 d op g l k st Q = effD P O n f l k d st Q (eff st.s st.σ op) := rfl
theorem callD_some (d : Option Nat) (op : VOp) (g : Option (VX × Bool)) (l : List VIns) (v : V) : callD P O n f l k d op g st Q (some v) = step P O n f (.d l k) ⟨putO st.s d v, st.σ⟩ Q := rfl
theorem callD_none (d : Option Nat) (op : VOp) (g : Option (VX × Bool)) (l : List VIns) : callD P O n f l k d op g st Q none = Go P n (.d (⟨d, op, g⟩ :: l) k) st Q := rfl
theorem s_r_nil : step P O n (f + 1) (.r []) st Q = Q st := rfl
theorem s_r_stop (I : St → Prop) : step P O n (f + 1) (.r (.stop I :: k)) st Q = I st := rfl
theorem s_r_inBlock (id : Nat) : step P O n (f + 1) (.r (.inBlock id :: k)) st Q = step P O n f (.r k) st Q := rfl
theorem s_r_ops_nil : step P O n (f + 1) (.r (.ops [] :: k)) st Q = step P O n f (.r k) st Q := rfl
theorem s_r_skip : step P O n (f + 1) (.r (.code .skip :: k)) st Q = step P O n f (.r k) st Q := rfl
theorem s_r_seq (a b : VCode) : step P O n (f + 1) (.r (.code (.seq a b) :: k)) st Q = step P O n f (.r (.code a :: .code b :: k)) st Q := rfl
theorem s_r_block (id : Nat) (a : VCode) : step P O n (f + 1) (.r (.code (.block id a) :: k)) st Q = step P O n f (.r (.code a :: .inBlock id :: k)) st Q := rfl
theorem s_r_exit (id : Nat) : step P O n (f + 1) (.r (.code (.exit id) :: k)) st Q = exR P O n f (popTo id k) st Q := rfl
theorem exR_some (k' : List It) : exR P O n f (some k') st Q = step P O n f (.r k') st Q := rfl
theorem s_r_ret : step P O n (f + 1) (.r (.code .ret :: k)) st Q = Q st := rfl
theorem s_r_loop (a : VCode) : step P O n (f + 1) (.r (.code (.loop a) :: k)) st Q = Runs P n (.code (.loop a) :: k) st Q := rfl
theorem s_r_reg (l : List VIns) : step P O n (f + 1) (.r (.code (.reg false l) :: k)) st Q = step P O n f (.r (.ops l :: k)) st Q := rfl
theorem s_r_dreg (l : List VIns) : step P O n (f + 1) (.r (.code (.reg true l) :: k)) st Q = step P O n f (.d l k) st Q := rfl
theorem s_d_nil : step P O n (f + 1) (.d [] k) st Q = step P O n f (.r k) st Q := rfl
theorem s_r_cond (c : VX) (a b : VCode) : step P O n (f + 1) (.r (.code (.cond c a b) :: k)) st Q = cR P O n f (c.ev st.s) a b k st Q := rfl
theorem cR_t (a b : VCode) : cR P O n f (.bool true) a b k st Q = step P O n f (.r (.code a :: k)) st Q := by simp [cR, onBool, both]
theorem cR_f (a b : VCode) : cR P O n f (.bool false) a b k st Q = step P O n f (.r (.code b :: k)) st Q := by simp [cR, onBool, both]
theorem cR_dec (p : Prop) [Decidable p] (a b : VCode) : cR P O n f (.bool (decide p)) a b k st Q = ((p → step P O n f (.r (.code a :: k)) st Q) ∧ (¬ p → step P O n f (.r (.code b :: k)) st Q)) := by simp [cR, onBool, both]
theorem s_r_ins (d : Option Nat) (op : VOp) (l : List VIns) : step P O n (f + 1) (.r (.ops (⟨d, op, none⟩ :: l) :: k)) st Q = insR P O n f (okind op) d op none l k st Q := rfl
theorem contR_some (d : Option Nat) (l : List VIns) (v : V) : contR P O n f l k d st Q (some v) = step P O n f (.r (.ops l :: k)) ⟨putO st.s d v, st.σ⟩ Q := rfl
theorem storeR_some (d : Option Nat) (l : List VIns) (σ' : Store) : storeR P O n f l k d st Q (some σ') = step P O n f (.r (.ops l :: k)) ⟨putO st.s d (.tup []), σ'⟩ Q := rfl
theorem effR_some (d : Option Nat) (l : List VIns) (g : Nat → V × Store) : effR P O n f l k d st Q (some g) = ∀ id, st.σ id = none → step P O n f (.r (.ops l :: k)) ⟨putO st.s d (g id).1, (g id).2⟩ Q := rfl
theorem s_d_ins (d : Option Nat) (op : VOp) (l : List VIns) : step P O n (f + 1) (.d (⟨d, op, none⟩ :: l) k) st Q = insD P O n f (okind op) d op none l k st Q := rfl
theorem contD_some (d : Option Nat) (l : List VIns) (v : V) : contD P O n f l k d st Q (some v) = step P O n f (.d l k) ⟨putO st.s d v, st.σ⟩ Q := rfl
theorem storeD_some (d : Option Nat) (l : List VIns) (σ' : Store) : storeD P O n f l k d st Q (some σ') = step P O n f (.d l k) ⟨putO st.s d (.tup []), σ'⟩ Q := rfl
theorem effD_some (d : Option Nat) (l : List VIns) (g : Nat → V × Store) : effD P O n f l k d st Q (some g) = ∀ id, st.σ id = none → step P O n f (.d l k) ⟨putO st.s d (g id).1, (g id).2⟩ Q := rfl
theorem s_r_gins (d : Option Nat) (op : VOp) (x : VX) (b : Bool) (l : List VIns) : step P O n (f + 1) (.r (.ops (⟨d, op, some (x, b)⟩ :: l) :: k)) st Q = gR P O n f (x.ev st.s) d op x b l k st Q := rfl
theorem gR_tup (d : Option Nat) (op : VOp) (x : VX) (b : Bool) (l : List VIns) : gR P O n f (.tup []) d op x b l k st Q = step P O n f (.r (.ops l :: k)) ⟨putO st.s d (.tup []), st.σ⟩ Q := rfl
theorem gR_tt (d : Option Nat) (op : VOp) (x : VX) (l : List VIns) : gR P O n f (.bool true) d op x true l k st Q = insR P O n f (okind op) d op (some (x, true)) l k (st.lit x (.bool true)) Q := by simp [gR, onBool, both]
theorem gR_ff (d : Option Nat) (op : VOp) (x : VX) (l : List VIns) : gR P O n f (.bool false) d op x false l k st Q = insR P O n f (okind op) d op (some (x, false)) l k (st.lit x (.bool false)) Q := by simp [gR, onBool, both]
theorem gR_tf (d : Option Nat) (op : VOp) (x : VX) (l : List VIns) : gR P O n f (.bool true) d op x false l k st Q = step P O n f (.r (.ops l :: k)) ⟨putO (st.lit x (.bool true)).s d (.tup []), (st.lit x (.bool true)).σ⟩ Q := by simp [gR, onBool, both]
theorem gR_ft (d : Option Nat) (op : VOp) (x : VX) (l : List VIns) : gR P O n f (.bool false) d op x true l k st Q = step P O n f (.r (.ops l :: k)) ⟨putO (st.lit x (.bool false)).s d (.tup []), (st.lit x (.bool false)).σ⟩ Q := by simp [gR, onBool, both]
theorem gR_dec_t (p : Prop) [Decidable p] (d : Option Nat) (op : VOp) (x : VX) (l : List VIns) : gR P O n f (.bool (decide p)) d op x true l k st Q =
    ((p → insR P O n f (okind op) d op (some (x, true)) l k (st.lit x (.bool true)) Q) ∧ (¬ p → step P O n f (.r (.ops l :: k)) ⟨putO (st.lit x (.bool false)).s d (.tup []), (st.lit x (.bool false)).σ⟩ Q)) := by simp [gR, onBool, both]
theorem gR_dec_f (p : Prop) [Decidable p] (d : Option Nat) (op : VOp) (x : VX) (l : List VIns) : gR P O n f (.bool (decide p)) d op x false l k st Q =
    ((¬ p → insR P O n f (okind op) d op (some (x, false)) l k (st.lit x (.bool false)) Q) ∧ (p → step P O n f (.r (.ops l :: k)) ⟨putO (st.lit x (.bool true)).s d (.tup []), (st.lit x (.bool true)).σ⟩ Q)) := by simp [gR, onBool, both]
theorem s_d_gins (d : Option Nat) (op : VOp) (x : VX) (b : Bool) (l : List VIns) : step P O n (f + 1) (.d (⟨d, op, some (x, b)⟩ :: l) k) st Q = gD P O n f (x.ev st.s) d op x b l k st Q := rfl
theorem gD_tup (d : Option Nat) (op : VOp) (x : VX) (b : Bool) (l : List VIns) : gD P O n f (.tup []) d op x b l k st Q = step P O n f (.d l k) ⟨putO st.s d (.tup []), st.σ⟩ Q := rfl
theorem gD_tt (d : Option Nat) (op : VOp) (x : VX) (l : List VIns) : gD P O n f (.bool true) d op x true l k st Q = insD P O n f (okind op) d op (some (x, true)) l k (st.lit x (.bool true)) Q := by simp [gD, onBool, both]
theorem gD_ff (d : Option Nat) (op : VOp) (x : VX) (l : List VIns) : gD P O n f (.bool false) d op x false l k st Q = insD P O n f (okind op) d op (some (x, false)) l k (st.lit x (.bool false)) Q := by simp [gD, onBool, both]
theorem gD_tf (d : Option Nat) (op : VOp) (x : VX) (l : List VIns) : gD P O n f (.bool true) d op x false l k st Q = step P O n f (.d l k) ⟨putO (st.lit x (.bool true)).s d (.tup []), (st.lit x (.bool true)).σ⟩ Q := by simp [gD, onBool, both]
theorem gD_ft (d : Option Nat) (op : VOp) (x : VX) (l : List VIns) : gD P O n f (.bool false) d op x true l k st Q = step P O n f (.d l k) ⟨putO (st.lit x (.bool false)).s d (.tup []), (st.lit x (.bool false)).σ⟩ Q := by simp [gD, onBool, both]
theorem gD_dec_t (p : Prop) [Decidable p] (d : Option Nat) (op : VOp) (x : VX) (l : List VIns) : gD P O n f (.bool (decide p)) d op x true l k st Q =
    ((p → insD P O n f (okind op) d op (some (x, true)) l k (st.lit x (.bool true)) Q) ∧ (¬ p → step P O n f (.d l k) ⟨putO (st.lit x (.bool false)).s d (.tup []), (st.lit x (.bool false)).σ⟩ Q)) := by simp [gD, onBool, both]
theorem gD_dec_f (p : Prop) [Decidable p] (d : Option Nat) (op : VOp) (x : VX) (l : List VIns) : gD P O n f (.bool (decide p)) d op x false l k st Q =
    ((¬ p → insD P O n f (okind op) d op (some (x, false)) l k (st.lit x (.bool false)) Q) ∧ (p → step P O n f (.d l k) ⟨putO (st.lit x (.bool true)).s d (.tup []), (st.lit x (.bool true)).σ⟩ Q)) := by simp [gD, onBool, both]
end rules
/-- A contract of a function that only computes. -/
def PFun (P : Program) (f : FuncId) (args : List V) (v : V) : Prop := ∀ σ, Contract P f args σ fun r σ' => r = v ∧ σ' = σ
end Go.Vc
namespace Go.Vc
variable {P : Program} {n : Nat} {st : St} {Q : St → Prop} {k : List It}
def nost : Store := fun _ => none
theorem nost_sub (σ : Store) : SubStore nost σ := fun _ _ h => by simp [nost] at h
/-- a value without memory -/
def V.lone : V → Bool
  | .int .. | .bool _ | .str _ => true
  | _ => false
def V.scalar : V → Bool
  | .tup vs => vs.all V.lone
  | v => v.lone
theorem Rep.lone {μ μ' : Mu} {ow ow' : Nat → Prop} {w w' : World} {v : V} {x : Value} (hv : v.lone = true) (h : Rep μ ow w v x) : Rep μ' ow' w' v x := by
  cases v <;> simp only [V.lone, Bool.false_eq_true] at hv <;> simpa [Rep] using h
theorem Rep.scalar {μ μ' : Mu} {ow ow' : Nat → Prop} {w w' : World} {v : V} {x : Value} (hv : v.scalar = true) (h : Rep μ ow w v x) : Rep μ' ow' w' v x := by
  by_cases ht : ∃ vs, v = .tup vs
  · obtain ⟨vs, rfl⟩ := ht
    simp only [Rep] at h ⊢
    obtain ⟨vals, rfl, h⟩ := h
    refine ⟨vals, rfl, ?_⟩
    simp only [V.scalar] at hv
    induction vs generalizing vals with
    | nil => simpa [RepAll] using h
    | cons u us ih =>
      simp only [List.all_cons, Bool.and_eq_true] at hv
      simp only [RepAll] at h ⊢
      obtain ⟨y, ys, rfl, h1, h2⟩ := h
      exact ⟨y, ys, rfl, Rep.lone hv.1 h1, ih hv.2 ys h2⟩
  · refine Rep.lone ?_ h
    cases v <;> simp_all [V.scalar]
theorem PFun.borrow {f : FuncId} {args args' : List V} {v : V} {σ : Store} (hw : WkL σ nost args args') (h : PFun P f args' v) (hv : v.scalar = true) :
    Contract P f args σ fun r σ' => r = v ∧ σ' = σ := by
  refine ⟨(h nost).1, ?_⟩
  intro μ w vals hs hr
  have hs0 : Sat w (Owned μ nost) μ nost w := by
    have := hs.drop (nost_sub σ)
    exact ⟨Nat.le_refl _, rfl, rfl, rfl, fun _ _ _ => rfl, this.fin, this.inj, this.obj, fun b hb _ => hb⟩
  refine ((h nost).2 μ w vals hs0 (WkL.all hs hw hr)).mono ?_
  rintro e w' ⟨r, σ', μ', val, rfl, ⟨rfl, rfl⟩, hle, hs', hrep⟩
  have hno : ∀ b, ¬ Owned μ nost b := fun b ⟨_, _, _, _, h, _⟩ => by simp [nost] at h
  have hsame : ∀ b, b < w.heap.size → w'.heap[b]? = w.heap[b]? := fun b hb => hs'.same b hb (hno b)
  have hborn : ∀ id o, σ id = some o → μ' id = μ id := fun id o ho => hle id (fun e => by
    have := hs.obj id o ho; rw [e] at this; exact this)
  have hown : ∀ b, Owned μ' σ b → Owned μ σ b := fun b ⟨id, o, sz, cap, h1, h2⟩ => ⟨id, o, sz, cap, h1, hborn id o h1 ▸ h2⟩
  have hk : Keeps (Owned μ σ) (Owned μ' σ) w w' := fun b hb hn => ⟨fun ho => hn (hown b ho), hsame b hb⟩
  refine ⟨_, σ, μ', val, rfl, ⟨rfl, rfl⟩, hle, ?_, Rep.scalar hv hrep⟩
  refine ⟨hs'.size, hs'.os, hs'.tape, hs'.output, fun b hb _ => hsame b hb, hs'.fin, ?_, ?_, fun b hb _ => hown b hb⟩
  · intro id id' o o' b sz cap sz' cap' h1 h2 h3 h4
    exact hs.inj id id' o o' b sz cap sz' cap' h1 h2 (hborn id o h1 ▸ h3) (hborn id' o' h2 ▸ h4)
  · intro id o ho
    rw [hborn id o ho]
    refine (hs.obj id o ho).mono hle hk hs'.size fun b sz cap hp => hsame b ?_
    exact Owned.lt hs ⟨id, o, sz, cap, ho, hp⟩
/-- a function's end with one result, or several -/
def RetV (v : V) (σ : Store) (Post : V → Store → Prop) : Prop := ∃ v' σ', SubStore σ' σ ∧ Wk σ σ' v v' ∧ Post v' σ'
theorem Ret_one {s : Nat → V} {σ : Store} {d : Nat} {Post : V → Store → Prop} : Ret [.tmp (.t d)] ⟨s, σ⟩ Post = RetV (s d) σ Post := by
  apply propext
  simp only [Ret, RetV, resV, resAll, resOne, VX.ev]
  constructor
  · rintro ⟨v, v', σ', h1, h2⟩; simp only [Option.some.injEq] at h1; subst h1; exact ⟨v', σ', h2⟩
  · rintro ⟨v', σ', h2⟩; exact ⟨_, v', σ', rfl, h2⟩
theorem Ret_two {s : Nat → V} {σ : Store} {d e : Nat} {Post : V → Store → Prop} : Ret [.tmp (.t d), .tmp (.t e)] ⟨s, σ⟩ Post = RetV (.tup [s d, s e]) σ Post := by
  apply propext
  simp only [Ret, RetV, resV, resAll, resOne, VX.ev]
  constructor
  · rintro ⟨v, v', σ', h1, h2⟩; simp only [Option.some.injEq] at h1; subst h1; exact ⟨v', σ', h2⟩
  · rintro ⟨v', σ', h2⟩; exact ⟨_, v', σ', rfl, h2⟩
theorem Ret_three {s : Nat → V} {σ : Store} {d e g : Nat} {Post : V → Store → Prop} : Ret [.tmp (.t d), .tmp (.t e), .tmp (.t g)] ⟨s, σ⟩ Post = RetV (.tup [s d, s e, s g]) σ Post := by
  apply propext
  simp only [Ret, RetV, resV, resAll, resOne, VX.ev]
  constructor
  · rintro ⟨v, v', σ', h1, h2⟩; simp only [Option.some.injEq] at h1; subst h1; exact ⟨v', σ', h2⟩
  · rintro ⟨v', σ', h2⟩; exact ⟨_, v', σ', rfl, h2⟩
theorem Ret_none {st : St} {Post : V → Store → Prop} : Ret [] st Post = RetV (.tup []) st.σ Post := by
  apply propext
  simp only [Ret, RetV, resV, resAll]
  constructor
  · rintro ⟨v, v', σ', h1, h2⟩; simp only [Option.some.injEq] at h1; subst h1; exact ⟨v', σ', h2⟩
  · rintro ⟨v', σ', h2⟩; exact ⟨_, v', σ', rfl, h2⟩
theorem RetV.pure {v v0 : V} {σ σ1 : Store} (h : SubStore σ σ1) (hv : v = v0) : RetV v σ1 fun r σ' => r = v0 ∧ σ' = σ :=
  ⟨v, σ, h, Wk.refl h v, hv, rfl⟩
theorem RetV.same {v v0 : V} {σ : Store} (hv : v = v0) : RetV v σ fun r σ' => r = v0 ∧ σ' = σ := .pure (SubStore.refl σ) hv
theorem upd_none {σ : Store} {id i : Nat} {o : Ob} : upd σ id o i = none ↔ i ≠ id ∧ σ i = none := by
  unfold upd; split <;> simp_all
theorem upd_same {σ : Store} {id : Nat} {o : Ob} : upd σ id o id = some o := by simp [upd]
theorem upd_ne {σ : Store} {id i : Nat} {o : Ob} (h : i ≠ id) : upd σ id o i = σ i := by simp [upd, h]
theorem del_ne {σ : Store} {id i : Nat} (h : i ≠ id) : del σ id i = σ i := by simp [del, h]
theorem upd_upd {σ : Store} {id : Nat} {a b : Ob} : upd (upd σ id a) id b = upd σ id b := by
  funext i; simp only [upd]; split <;> rfl
theorem SubStore.upd {σ' σ : Store} {id : Nat} {o : Ob} (h : SubStore σ' σ) (hid : σ id = none) : SubStore σ' (Vc.upd σ id o) :=
  h.upd_new (by
    cases hs : σ' id with
    | none => rfl
    | some x => have := h id x hs; rw [hid] at this; cases this)
end Go.Vc
namespace Go.Vc
variable {P : Program} {n : Nat} {st : St} {Q : St → Prop} {k : List It} {μ : Mu} {w : World}
theorem flat_drop {rows : List V} {sz : Nat} (h : ∀ r ∈ rows, r.cells.length = sz) (k : Nat) : flat (rows.drop k) = (flat rows).drop (k * sz) := by
  induction rows generalizing k with
  | nil => simp [flat]
  | cons r rs ih =>
    have e : ∀ l, flat (r :: l) = r.cells ++ flat l := fun l => by simp [flat]
    cases k with
    | zero => simp [flat]
    | succ k =>
      rw [List.drop_succ_cons, e, ih (fun x hx => h x (by simp [hx])), Nat.add_mul, Nat.one_mul, Nat.add_comm, ← h r (by simp), ← List.drop_drop, List.drop_left]
theorem RepAll.replicate {ow : Nat → Prop} {vs : List V} {l : List Value} (h : RepAll μ ow w vs l) : ∀ n, RepAll μ ow w (List.replicate n vs).flatten (List.replicate n l).flatten
  | 0 => by simp [RepAll]
  | n + 1 => by
    simp only [List.replicate_succ, List.flatten_cons]
    exact h.append (RepAll.replicate h n)
theorem clear_sound {F : Fr} {a : Act} (hs : SatM F μ st a w) {o : Oper} {x : Operand} {t e : TypeId} {args : Array Operand} {argTypes : Array TypeId} {i : TypeInfo} {z : Value}
    (hoo : o.op = .call { callee := .builtin .clear, args := args, argTypes := argTypes }) (harg : args = #[x]) (hty : argTypes[0]? = some t)
    (ht : P.underlying t = some (.slice e)) (hz : zeroOf P e = some (i, z)) {id off len : Nat} (h1 : (cx F.n x).ev st.s = .own id off len) {ob : Ob} (h2 : st.σ id = some ob)
    (h3 : ob.sz = i.size) (h4 : off + len ≤ ob.rows.length) :
    ∃ y w', (execOp a.eval o).run P w = .ok (.value y) w' ∧
      SatM F μ ⟨putO st.s (o.dst.filter (· < F.n)) (.tup []), upd st.σ id { ob with rows := ob.rows.take off ++ List.replicate len (ofValue z) ++ ob.rows.drop (off + len) }⟩ (a.put o.dst y) w' := by
  obtain ⟨hi, hz0, hk, hzs, hone, hsz⟩ := zeroOf_iff hz
  have R := rep_cx hs
  have hx := R x
  rw [h1] at hx
  simp only [Rep] at hx
  have hrun : ∀ w', (Builtin.clear_ argTypes o.type #[a.eval x]).run P w = .ok (.tuple #[]) w' → (execOp a.eval o).run P w = .ok (.value (.tuple #[])) w' := by
    intro w' hw'
    unfold execOp
    rw [hoo]
    simp [resolve, invoke, Go.builtin, harg, hw']
  have hrep : Rep μ (Owned μ st.σ) w (.tup []) (.tuple #[]) := by simp only [Rep]; exact ⟨[], rfl, by simp [RepAll]⟩
  have hzero : len = 0 → ∃ y w', (execOp a.eval o).run P w = .ok (.value y) w' ∧
      SatM F μ ⟨putO st.s (o.dst.filter (· < F.n)) (.tup []), upd st.σ id { ob with rows := ob.rows.take off ++ List.replicate len (ofValue z) ++ ob.rows.drop (off + len) }⟩ (a.put o.dst y) w' := by
    intro h0
    subst h0
    have hX : ∃ b c, a.eval x = .slice b 0 c := by
      split at hx
      · exact hx.elim
      · exact ⟨_, _, hx.1⟩
      · obtain ⟨o', c, h, _⟩ := hx; exact ⟨_, _, h⟩
    obtain ⟨b, c, hX⟩ := hX
    have hst : upd st.σ id { ob with rows := ob.rows.take off ++ List.replicate 0 (ofValue z) ++ ob.rows.drop (off + 0) } = st.σ := by
      funext j
      simp only [upd, List.replicate_zero, List.append_nil, Nat.add_zero, List.take_append_drop]
      split
      · rename_i e'; rw [e', h2]
      · rfl
    rw [hst]
    refine ⟨.tuple #[], w, hrun w ?_, hs.pure hrep⟩
    rw [hX]
    cases b <;> simp [Builtin.clear_, hty, run_underlying ht]
  split at hx
  · exact hx.elim
  · exact hzero hx.2.2
  · rename_i b szb cap hid
    obtain ⟨o', c, hX, c1, c2, c3⟩ := hx
    by_cases h0 : len = 0
    · exact hzero h0
    have hob := hs.sat.obj id ob h2
    rw [hid] at hob
    obtain ⟨cur, e1, e2, e3, e4, e5, e6, e7⟩ := hob
    obtain ⟨g1, xs, g2, g3, g4, g5⟩ := e7.cur e1
    have hoff : o' = off * szb := by
      rcases c3 with c3 | c3
      · exact c3
      · omega
    subst hoff
    have hs' : szb = i.size := by omega
    subst hs'
    have hzl : z.cells.size = i.size := hzs
    have hnews := zeroCells_list z.cells len
    have hnl : (Builtin.zeroCells z.cells len).toList.length = len * i.size := by rw [hnews]; simp [hzl]
    have hbound : off * i.size + len * i.size ≤ ob.rows.length * i.size := by rw [← Nat.add_mul]; exact Nat.mul_le_mul_right _ h4
    have hbound2 : ob.rows.length * i.size ≤ cap * i.size := Nat.mul_le_mul_right _ e5
    have hone' : ∀ u ∈ (Builtin.zeroCells z.cells len).toList, u.oneCell' = true := by
      rw [hnews]
      intro u hu
      simp only [List.mem_flatten, List.mem_replicate] at hu
      obtain ⟨l, ⟨_, rfl⟩, hu⟩ := hu
      exact hone u hu
    have hst := run_storeCells_at P b (off * i.size) ob.elem (Builtin.zeroCells z.cells len).toList 0 cur w e1 (by rw [hnl]; omega) hone'
    simp only [Nat.add_zero] at hst
    refine ⟨.tuple #[], w.setRow b (cur.toList.take (off * i.size) ++ (Builtin.zeroCells z.cells len).toList ++ cur.toList.drop (off * i.size + (Builtin.zeroCells z.cells len).toList.length)).toArray, hrun _ ?_, ?_⟩
    · rw [hX]
      obtain ⟨m, rfl⟩ : ∃ m, len = m + 1 := ⟨len - 1, by omega⟩
      simp only [Builtin.clear_, hty, Sem.run_bind, List.getElem?_toArray, Sem.run_pure, Result.andThen_ok, run_underlying ht, run_zeroValue hz]
      simp [hst, run_underlying ht, run_zeroValue hz]
    · have hgrow : w.grownBy (w.setRow b (cur.toList.take (off * i.size) ++ (Builtin.zeroCells z.cells len).toList ++ cur.toList.drop (off * i.size + (Builtin.zeroCells z.cells len).toList.length)).toArray) (some b) :=
        ⟨rfl, rfl, rfl, by simp, fun kk _ hkk => setRow_other w b kk _ (fun e => hkk (by rw [e]))⟩
      have hzc : (ofValue z).cells.length = i.size := by rw [ofValue_cells hone]; simp [hzl]
      have hrows' : ∀ q ∈ ob.rows.take off ++ List.replicate len (ofValue z) ++ ob.rows.drop (off + len), q.cells.length = i.size := by
        intro q hq
        simp only [List.mem_append] at hq
        rcases hq with (hq | hq) | hq
        · exact g1 q (List.mem_of_mem_take hq)
        · rw [(List.mem_replicate.1 hq).2]; exact hzc
        · exact g1 q (List.mem_of_mem_drop hq)
      have hflat : flat (ob.rows.take off ++ List.replicate len (ofValue z) ++ ob.rows.drop (off + len)) =
          (flat ob.rows).take (off * i.size) ++ (List.replicate len (ofValue z).cells).flatten ++ (flat ob.rows).drop (off * i.size + len * i.size) := by
        rw [flat_append, flat_append, flat_replicate, flat_take g1]
        congr 1
        rw [flat_drop g1, Nat.add_mul]
      have hzr : RepAll μ (Owned μ st.σ) w (ofValue z).cells z.cells.toList := by rw [ofValue_cells hone]; exact Rep_cellOfs _
      have hch := hs.sat.change h2 hid hgrow _ (ob.rows.take off ++ List.replicate len (ofValue z) ++ ob.rows.drop (off + len)) (xs.take (off * i.size) ++ (Builtin.zeroCells z.cells len).toList ++ xs.drop (off * i.size + (Builtin.zeroCells z.cells len).toList.length))
        (setRow_heap w b cur _ ob.elem _ e1) (by simp only [List.size_toArray, List.length_append, List.length_take, List.length_drop, hnl]; rw [Array.length_toList]; omega) (by simp; omega) hrows'
        (by rw [hflat, hnl, hnews]; exact ((g2.take _).append (hzr.replicate len)).append (g2.drop _))
        (by intro u hu
            simp only [List.mem_append] at hu
            rcases hu with (hu | hu) | hu
            · exact g3 u (List.mem_of_mem_take hu)
            · exact hone' u hu
            · exact g3 u (List.mem_of_mem_drop hu))
        (by intro j u hu
            have := prefix_splice cur.toList xs _ g5 (off * i.size) (by rw [hnl, g4]; omega) j u hu
            simpa using this)
      exact hs.step hch.1 (MuLe.refl _) hch.2 (by simp) (by simp only [Rep]; exact ⟨[], rfl, by simp [RepAll]⟩)
theorem Runs.clear {i : VIns} {l : List VIns} {sz : Nat} {z : V} {xv : VX} (hw : wantV st.s i.g = some true) (ho : i.op = .clear sz z xv)
    {id off len : Nat} (h1 : xv.ev st.s = .own id off len) {ob : Ob} (h2 : st.σ id = some ob) (h3 : ob.sz = sz) (h4 : off + len ≤ ob.rows.length)
    (h : Runs P n (.ops l :: k) ⟨putO st.s i.dst (.tup []), upd st.σ id { ob with rows := ob.rows.take off ++ List.replicate len z ++ ob.rows.drop (off + len) }⟩ Q) : Runs P n (.ops (i :: l) :: k) st Q := by
  refine Runs.ins hw fun F hn μ a w o all hi hs next Q' hnext => ?_
  subst hn
  obtain ⟨hop, hd⟩ := cins_op hi
  rw [ho] at hop
  obtain ⟨x, t, e, args, argTypes, ti, zv, g1, g2, g3, g4, g5, rfl, rfl, rfl⟩ := cop_clear hop
  obtain ⟨y, w', hx, hs'⟩ := clear_sound hs g1 g2 g3 g4 g5 h1 h2 h3 h4
  unfold Oper.wp
  rw [hx]
  refine hnext _ _ _ ⟨μ, ?_⟩ h
  rw [← hd]
  exact hs'
theorem cx_iface {y : Operand} {t : TypeId} {v : V} : cx n y ≠ .c (.iface t v) := by
  cases y
  case tmp m => simp only [cx]; split <;> simp
  case const u =>
    simp only [cx, ne_eq, VX.c.injEq]
    unfold ofValue
    split
    · split <;> simp
    · unfold cellOf
      repeat' split
      all_goals simp
  all_goals simp [cx]
theorem cop_nilS {o : Op} {xa : VX} (h : cop P n o = .binB false xa (.c (.iface 0 .undef))) : ∃ t x y m c yt e, o = .binOp .eql t x y yt ∧ y = .const (.slice none m c) ∧ P.underlying t = some (.slice e) ∧ cx n x = xa := by
  cases o
  case binOp op t x y yt =>
    simp only [cop] at h
    split at h
    · cases op <;> simp only [reduceCtorEq, VOp.binB.injEq, Bool.true_eq_false, false_and] at h
      exact absurd h.2.2 cx_iface
    · split at h
      · cases op <;> simp only [reduceCtorEq] at h
      · cases h
    · split at h
      · rename_i hs
        unfold nilB at h
        split at h
        · rename_i hy
          obtain ⟨rfl, hy⟩ := hy
          simp only [VOp.binB.injEq, and_true, true_and] at h
          unfold sliceT at hs
          split at hs
          · rename_i e ht
            unfold nilS nilV at hy
            split at hy
            · split at hy
              · exact ⟨t, x, _, _, _, yt, e, rfl, rfl, ht, h⟩
              · cases hy
            · cases hy
          · cases hs
        · cases h
      · cases h
  case call c =>
    obtain ⟨callee, args, argTypes⟩ := c
    cases callee
    case builtin b => cases b <;> simp only [cop] at h <;> (repeat' split at h) <;> cases h
    all_goals (simp only [cop] at h; cases h)
  case unOp op t x => cases op <;> simp only [cop] at h <;> cases h
  case makeFunc f a b => cases f <;> simp only [cop] at h <;> (repeat' split at h) <;> cases h
  all_goals (simp only [cop] at h; (repeat' split at h) <;> cases h)
theorem Runs.nilS {i : VIns} {l : List VIns} {xa : VX} (hw : wantV st.s i.g = some true) (ho : i.op = .binB false xa (.c (.iface 0 .undef))) {sz : Nat} {rows : List V}
    (hx : xa.ev st.s = .sl sz rows) (h : ∀ b, (b = true → rows = []) → Runs P n (.ops l :: k) ⟨putO st.s i.dst (.bool b), st.σ⟩ Q) : Runs P n (.ops (i :: l) :: k) st Q := by
  refine Runs.ins hw fun F hn μ a w o all hi hs next Q' hnext => ?_
  subst hn
  obtain ⟨hop, hd⟩ := cins_op hi
  rw [ho] at hop
  obtain ⟨t, x, y, m, c, yt, e, g1, rfl, g2, rfl⟩ := cop_nilS hop
  have R := rep_cx hs x
  rw [hx] at R
  simp only [Rep] at R
  obtain ⟨ba, cap, hX, _, hr⟩ := R
  have hrun : (execOp a.eval o).run P w = .ok (.value (.bool ba.isNone)) w := by
    unfold execOp
    rw [g1]
    have hY : a.eval (.const (.slice none m c)) = .slice none m c := rfl
    simp [hX, hY, eqGuard, Lib.run_eql_slice_nil w t e ba rows.length cap m c g2]
  unfold Oper.wp
  rw [hrun]
  refine hnext _ _ _ ⟨μ, ?_⟩ (h ba.isNone ?_)
  · rw [← hd]
    exact hs.pure (by simp [Rep])
  · intro hb
    rcases hr with hr | ⟨b, off, rfl, _⟩
    · exact hr
    · cases hb
end Go.Vc
namespace Go.Vc
variable {P : Program} {n : Nat} {st : St} {Q : St → Prop} {k : List It}
/-- the kept slots, as they are -/
def keepS (l : List Nat) (s : Nat → V) : Nat → V := fun i => if l.contains i then s i else .undef
theorem Weak.keep {s : Nat → V} {σ σ' : Store} (l : List Nat) (h : SubStore σ' σ) : Weak ⟨s, σ⟩ ⟨keepS l s, σ'⟩ :=
  ⟨h, fun i => by
    show Wk σ σ' (s i) (keepS l s i)
    unfold keepS
    split
    · exact Wk.refl h _
    · exact Wk.undef _⟩
theorem Runs.keep {s : Nat → V} {σ : Store} {todo : List It} (l : List Nat) {σ' : Store} (h : SubStore σ' σ) (hr : Runs P n todo ⟨keepS l s, σ'⟩ Q) : Runs P n todo ⟨s, σ⟩ Q :=
  Runs.weaken (Weak.keep l h) hr
/-- a row that this function owned is given away: from here on it is read alone -/
theorem Runs.freeze {s : Nat → V} {σ : Store} {todo : List It} (l : List Nat) (d id off len : Nat) {ob : Ob} {σ' : Store} (h : SubStore σ' σ) (ho : σ id = some ob) (hid : σ' id = none)
    (hs : s d = .own id off len) (hl : off + len ≤ ob.rows.length)
    (hr : Runs P n todo ⟨fun i => if i = d then .sl ob.sz ((ob.rows.drop off).take len) else keepS l s i, σ'⟩ Q) : Runs P n todo ⟨s, σ⟩ Q := by
  refine Runs.weaken ⟨h, fun i => ?_⟩ hr
  show Wk σ σ' (s i) _
  by_cases hi : i = d
  · simp only [hi, if_true]
    rw [hs]
    exact Wk.own h ho hid hl
  · simp only [hi, if_false]
    unfold keepS
    split
    · exact Wk.refl h _
    · exact Wk.undef _
theorem keepS_eq (l : List Nat) (s : Nat → V) (i : Nat) : keepS l s i = if l.contains i then s i else .undef := rfl
/-- the low slots and the others: two short chains in place of a long one -/
def mix (m : Nat) (a b : Nat → V) : Nat → V := fun i => if i < m then a i else b i
theorem mix_get (m : Nat) (a b : Nat → V) (i : Nat) : mix m a b i = if i < m then a i else b i := rfl
theorem mix_self (m : Nat) (s : Nat → V) : mix m s s = s := by funext i; simp [mix]
theorem putO_nothing (s : Nat → V) (v : V) : putO s none v = s := rfl
theorem putO_lo {m d : Nat} (h : d < m) (a b : Nat → V) (v : V) : putO (mix m a b) (some d) v = mix m (putO a (some d) v) b := by
  funext i
  simp only [putO, mix]
  split
  · rename_i e; subst e; simp [h]
  · split <;> rfl
theorem putO_hi {m d : Nat} (h : m ≤ d) (a b : Nat → V) (v : V) : putO (mix m a b) (some d) v = mix m a (putO b (some d) v) := by
  funext i
  simp only [putO, mix]
  split
  · rename_i e; subst e; simp [Nat.not_lt.2 h]
  · split <;> rfl
theorem Runs.mix (m : Nat) {todo : List It} {s : Nat → V} {σ : Store} (h : Runs P n todo ⟨Vc.mix m s s, σ⟩ Q) : Runs P n todo ⟨s, σ⟩ Q := by
  rw [mix_self] at h; exact h
theorem Ret_cell_one {s : Nat → V} {σ : Store} {agg : Bool} {sz d : Nat} {Post : V → Store → Prop} :
    Ret [.cell agg sz (.t d)] ⟨s, σ⟩ Post = onSome (loadV σ agg sz (s d)) fun v => RetV v σ Post := by
  unfold Ret RetV resV
  simp only [resAll, resOne, VX.ev]
  cases loadV σ agg sz (s d) <;> simp [onSome]
theorem Ret_cell_two {s : Nat → V} {σ : Store} {agg : Bool} {sz d e : Nat} {Post : V → Store → Prop} :
    Ret [.cell agg sz (.t d), .tmp (.t e)] ⟨s, σ⟩ Post = onSome (loadV σ agg sz (s d)) fun v => RetV (.tup [v, s e]) σ Post := by
  unfold Ret RetV resV
  simp only [resAll, resOne, VX.ev]
  cases loadV σ agg sz (s d) <;> simp [onSome]
theorem SubStore.updK {σ0 σ : Store} {id : Nat} {o : Ob} (h : SubStore σ0 σ) (hid : σ0 id = none) : SubStore σ0 (Vc.upd σ id o) := fun i x hx => by
  have hne : i ≠ id := fun e => by rw [e, hid] at hx; cases hx
  rw [upd_ne hne]
  exact h i x hx
theorem SubStore.none {a b : Store} (h : SubStore a b) {i : Nat} (hi : b i = none) : a i = none := by
  cases ha : a i with
  | none => rfl
  | some o => rw [h i o ha] at hi; cases hi
theorem ne_new {σ : Store} {i j : Nat} {o : Ob} (h : σ i = some o) (hj : σ j = none) : i ≠ j := by rintro rfl; rw [h] at hj; cases hj
/-- a new row: all that was known of the store stays -/
theorem effR_new {O : Orc P} {f : Nat} {d : Option Nat} {l : List VIns} {v : Nat → V} {ob : Ob} {s : Nat → V} {σ : Store}
    (h : ∀ id σ', SubStore σ σ' → σ' id = some ob → σ id = none → step P O n f (.r (.ops l :: k)) ⟨putO s d (v id), σ'⟩ Q) :
    effR P O n f l k d ⟨s, σ⟩ Q (some fun id => (v id, Vc.upd σ id ob)) := by
  rw [effR_some]
  exact fun id hid => h id _ ((SubStore.refl σ).upd hid) upd_same hid
theorem effD_new {O : Orc P} {f : Nat} {d : Option Nat} {l : List VIns} {v : Nat → V} {ob : Ob} {s : Nat → V} {σ : Store}
    (h : ∀ id σ', SubStore σ σ' → σ' id = some ob → σ id = none → step P O n f (.d l k) ⟨putO s d (v id), σ'⟩ Q) :
    effD P O n f l k d ⟨s, σ⟩ Q (some fun id => (v id, Vc.upd σ id ob)) := by
  rw [effD_some]
  exact fun id hid => h id _ ((SubStore.refl σ).upd hid) upd_same hid
theorem cR_b {O : Orc P} {f : Nat} (t : Bool) (a b : VCode) : cR P O n f (.bool t) a b k st Q = ((t = true → step P O n f (.r (.code a :: k)) st Q) ∧ (t = false → step P O n f (.r (.code b :: k)) st Q)) := by
  cases t <;> simp [cR, onBool, both]
/-- a call that changes nothing -/
theorem Runs.pcall {i : VIns} {l : List VIns} {fx : VX} {xs : List VX} {s : Nat → V} {σ : Store} {f : FuncId} {caps : List V} {v : V} (hw : wantV s i.g = some true) (ho : i.op = .call fx xs)
    (hf : fx.ev s = .fn f caps) (hc : Contract P f (xs.map (·.ev s) ++ caps) σ fun r σ' => r = v ∧ σ' = σ) (h : Runs P n (.ops l :: k) ⟨putO s i.dst v, σ⟩ Q) :
    Runs P n (.ops (i :: l) :: k) ⟨s, σ⟩ Q := by
  refine Runs.call hw ho hf hc ?_
  rintro r σ' ⟨rfl, rfl⟩
  exact h
theorem binV_int (op : BinOp) (k : IntKind) (a b : Int) : binV op (.int k a) (.int k b) = intBin op k a b := by simp [binV]
theorem binV_str (op : BinOp) (a b : List UInt8) : binV op (.str a) (.str b) = strBin op a b := rfl
theorem binPre_int (op : BinOp) (k k' : IntKind) (a b : Int) : binPre op (.int k a) (.int k' b) = intPre op k a b := rfl
theorem binPre_str (op : BinOp) (a b : List UInt8) : binPre op (.str a) (.str b) = strPre op a b := rfl
theorem lenV_own (id off n : Nat) : lenV false (.own id off n) = some (.int .i64 n) := rfl
theorem lenV_sl (sz : Nat) (rows : List V) : lenV false (.sl sz rows) = some (.int .i64 rows.length) := rfl
theorem lenV_nils : lenV false .nils = some (.int .i64 0) := rfl
theorem lenV_str (s : List UInt8) : lenV true (.str s) = some (.int .i64 s.length) := rfl
theorem idxAV_own (σ : Store) (esz id off len : Nat) (k : IntKind) (j : Int) : idxAV σ esz (.own id off len) (.int k j) = match σ id with
      | some ob => if ob.sz = esz ∧ 0 ≤ j ∧ j < len then some (.ptr id (off + j.toNat) 0) else none
      | none => none := rfl
theorem loadV_ptr (σ : Store) (agg : Bool) (sz id i k : Nat) : loadV σ agg sz (.ptr id i k) = match σ id with
      | some ob => match ob.rows[i]? with
        | some r => if agg then (if k = 0 ∧ r.cells.length = sz then some (.agg r.cells) else if k + sz ≤ r.cells.length then some (.agg ((r.cells.drop k).take sz)) else none)
            else r.cells[k]?
        | none => none
      | none => none := rfl
theorem loadV_rp_agg (σ : Store) (sz : Nat) (vs : List V) : loadV σ true sz (.rp (.agg vs)) = if vs.length = sz then some (.agg vs) else none := rfl
theorem loadV_rp_int (σ : Store) (sz : Nat) (k : IntKind) (j : Int) : loadV σ false sz (.rp (.int k j)) = some (.int k j) := rfl
/-- a slice that can be read: its elements -/
def Reads (σ : Store) (sz : Nat) (agg : Bool) (sv : V) (rows : List V) : Prop :=
  lenV false sv = some (.int .i64 rows.length) ∧ ∀ (i : Nat) v, rows[i]? = some v → ∃ p, idxAV σ sz sv (.int .i64 i) = some p ∧ loadV σ agg sz p = some v
theorem Reads.ints {σ : Store} {l : List Int} : Reads σ 1 false (.sl 1 (l.map (.int .i64 ·))) (l.map (.int .i64 ·)) := by
  refine ⟨rfl, fun i v hv => ?_⟩
  obtain ⟨n, hn, rfl⟩ : ∃ n, l[i]? = some n ∧ v = .int .i64 n := by
    rw [List.getElem?_map] at hv
    cases h : l[i]? with
    | none => simp [h] at hv
    | some n => simp [h] at hv; exact ⟨n, rfl, hv.symm⟩
  refine ⟨.rp (.int .i64 n), ?_, rfl⟩
  simp [idxAV, hn]
theorem Reads.own {σ : Store} {sz id off len : Nat} {ob : Ob} (ho : σ id = some ob) (hs : ob.sz = sz) (hl : off + len ≤ ob.rows.length) (h1 : ∀ r ∈ ob.rows, r.cells = [r]) :
    Reads σ sz false (.own id off len) ((ob.rows.drop off).take len) := by
  refine ⟨by simp [lenV]; omega, fun i v hv => ?_⟩
  have hi : i < len := by
    have := (List.getElem?_eq_some_iff.1 hv).1
    simp at this
    omega
  have hv' : ob.rows[off + i]? = some v := by
    rw [List.getElem?_take, if_pos hi, List.getElem?_drop] at hv
    exact hv
  refine ⟨.ptr id (off + i) 0, ?_, ?_⟩
  · simp [idxAV, ho, hs, hi]
  · simp [loadV, ho, hv', h1 v (List.mem_of_getElem? hv')]
theorem inR_i64 {m : Int} (h1 : -9223372036854775808 ≤ m) (h2 : m ≤ 9223372036854775807) : inR .i64 m := by
  unfold inR
  rw [IntKind.wrap_i64]
  omega
end Go.Vc
namespace Go.Vc
/-- values by numbers: a tree -/
inductive Tr (α : Type) where
  | e
  | n (l : Tr α) (v : α) (r : Tr α)
/-- a number's way -/
def pathF : Nat → Nat → List Bool
  | 0, _ => []
  | _ + 1, 0 => []
  | f + 1, k + 1 => Nat.beq (Nat.mod k 2) 0 :: pathF f (Nat.div k 2)
def pathOf (k : Nat) : List Bool := pathF (Nat.succ k) k
def getN {α : Type} (d : α) (f : Nat) : List Bool → Tr α → α :=
  @Nat.rec (fun _ => List Bool → Tr α → α) (fun _ _ => d)
    (fun _ ih p t => @List.casesOn Bool (fun _ => α) p (@Tr.casesOn α (fun _ => α) t d (fun _ v _ => v))
      (fun b p' => @Tr.casesOn α (fun _ => α) t d (fun l _ r => ih p' (@Bool.casesOn (fun _ => Tr α) b r l)))) f
def getP {α : Type} (d : α) (k : Nat) (t : Tr α) : α := getN d (Nat.succ k) (pathOf k) t
def setN {α : Type} (d v : α) (f : Nat) : List Bool → Tr α → Tr α :=
  @Nat.rec (fun _ => List Bool → Tr α → Tr α) (fun _ t => t)
    (fun _ ih p t => @List.casesOn Bool (fun _ => Tr α) p (@Tr.casesOn α (fun _ => Tr α) t (.n .e v .e) (fun l _ r => .n l v r))
      (fun b p' => @Tr.casesOn α (fun _ => Tr α) t (@Bool.casesOn (fun _ => Tr α) b (.n .e d (ih p' .e)) (.n (ih p' .e) d .e))
        (fun l u r => @Bool.casesOn (fun _ => Tr α) b (.n l u (ih p' r)) (.n (ih p' l) u r)))) f
def setP {α : Type} (d v : α) (k : Nat) (t : Tr α) : Tr α := setN d v (Nat.succ k) (pathOf k) t
structure CS where
  s : Tr V
  σ : Tr (Option Ob)
  nxt : Nat
def CS.sf (cs : CS) : Nat → V := fun i => getP (.tup []) i cs.s
def stF (σ : Tr (Option Ob)) : Store := fun i => getP none i σ
def setS (cs : CS) (d : Nat) (v : V) : CS := ⟨setP (.tup []) v d cs.s, cs.σ, cs.nxt⟩
def CS.put (cs : CS) (d : Option Nat) (v : V) : CS := @Option.casesOn Nat (fun _ => CS) d cs (fun d => setS cs d v)
mutual
/-- no row's number in it -/
def V.noid : V → Bool
  | .own .. | .ptr .. => false
  | .sl _ rows => noidL rows
  | .rp v => v.noid
  | .fn _ caps => noidL caps
  | .iface _ v => v.noid
  | .agg c | .tup c => noidL c
  | _ => true
def noidL : List V → Bool
  | [] => true
  | v :: vs => v.noid && noidL vs
end
def eqQ : Int → Int → Bool
  | .ofNat m, .ofNat n => Nat.beq m n
  | .negSucc m, .negSucc n => Nat.beq m n
  | _, _ => false
def leQ : Int → Int → Bool
  | .ofNat m, .ofNat n => Nat.ble m n
  | .negSucc _, .ofNat _ => true
  | .negSucc m, .negSucc n => Nat.ble n m
  | .ofNat _, .negSucc _ => false
def addQ : Int → Int → Int
  | .ofNat m, .ofNat n => .ofNat (Nat.add m n)
  | a, b => a + b
def subQ : Int → Int → Int
  | .ofNat m, .ofNat n => @Bool.casesOn (fun _ => Int) (Nat.ble n m) (.negSucc (Nat.sub (Nat.sub n m) 1)) (.ofNat (Nat.sub m n))
  | a, b => a - b
def in64 : Int → Bool
  | .ofNat m => Nat.ble m 9223372036854775807
  | .negSucc m => Nat.ble m 9223372036854775807
def inRB (k : IntKind) (n : Int) : Bool := match k with
  | .i64 => in64 n
  | k => decide (k.wrap n = n)
def gI (k : IntKind) (n : Int) : Option V := @Bool.casesOn (fun _ => Option V) (inRB k n) none (some (.int k n))
def eqK (k k' : IntKind) : Bool := decide (k = k')
def is64 : IntKind → Bool
  | .i64 => true
  | _ => false
/-- an operation on two numbers, if it is in range -/
structure FI where
  f : IntKind → Int → Int → Option V
def intBinQ (op : BinOp) : FI :=
  match op with
  | .add => ⟨fun k a b => gI k (addQ a b)⟩
  | .sub => ⟨fun k a b => gI k (subQ a b)⟩
  | .mul => ⟨fun k a b => gI k (a * b)⟩
  | .quo => ⟨fun k a b => if b = 0 then none else gI k (a.tdiv b)⟩
  | .rem => ⟨fun k a b => if b = 0 then none else some (.int k (a.tmod b))⟩
  | .eql => ⟨fun _ a b => some (.bool (eqQ a b))⟩
  | .neq => ⟨fun _ a b => some (.bool (not (eqQ a b)))⟩
  | .lss => ⟨fun _ a b => some (.bool (not (leQ b a)))⟩
  | .leq => ⟨fun _ a b => some (.bool (leQ a b))⟩
  | .gtr => ⟨fun _ a b => some (.bool (not (leQ a b)))⟩
  | .geq => ⟨fun _ a b => some (.bool (leQ b a))⟩
  | _ => ⟨fun _ _ _ => none⟩
def strBinQ (op : BinOp) (a b : List UInt8) : Option V :=
  match op with
  | .add => @Bool.casesOn (fun _ => Option V) (Nat.ble (a.length + b.length) 9223372036854775807) none (some (.str (a ++ b)))
  | .eql => some (.bool (decide (a = b)))
  | .neq => some (.bool (decide (a ≠ b)))
  | _ => none
def sameK (k k' : IntKind) : Bool := @Bool.casesOn (fun _ => Bool) (is64 k) (eqK k k') (is64 k')
def binI (k : IntKind) (a : Int) (g : IntKind → Int → Int → Option V) : V → Option V
  | .int k' b => @Bool.casesOn (fun _ => Option V) (sameK k k') none (g k a b)
  | _ => none
def binS (op : BinOp) (a : List UInt8) : V → Option V
  | .str b => strBinQ op a b
  | _ => none
def binQ (op : BinOp) (g : IntKind → Int → Int → Option V) (y : V) : V → Option V
  | .int k a => binI k a g y
  | .str a => binS op a y
  | _ => none
def negQ : V → Option V
  | .int k a => gI k (0 - a)
  | _ => none
def convQ (k : IntKind) : V → Option V
  | .int _ a => gI k a
  | _ => none
def notQ : V → Option V
  | .bool b => some (.bool (!b))
  | _ => none
def pickQ (a b : V) : V → Option V
  | .bool t => some (@Bool.casesOn (fun _ => V) t b a)
  | _ => none
/-- a place's number -/
def natQ : Int → Option Nat
  | .ofNat m => some m
  | _ => none
def idxQ (σ : Tr (Option Ob)) (esz : Nat) (x i : V) : Option V :=
  match x, i with
  | .own id off len, .int _ j => match natQ j with
    | some m => match getP none id σ with
      | some ob => @Bool.casesOn (fun _ => Option V) (Nat.beq ob.sz esz && Nat.blt m len) none (some (.ptr id (Nat.add off m) 0))
      | none => none
    | none => none
  | .sl sz rows, .int _ j => match natQ j with
    | some m => @Bool.casesOn (fun _ => Option V) (Nat.beq sz esz) none (match rows[m]? with
      | some r => some (.rp r)
      | none => none)
    | none => none
  | _, _ => none
def loadQ (σ : Tr (Option Ob)) (agg : Bool) (sz : Nat) (x : V) : Option V :=
  match x with
  | .ptr id i k => match getP none id σ with
    | some ob => match ob.rows[i]? with
      | some r => match agg with
        | true => @Bool.casesOn (fun _ => Option V) (Nat.beq k 0 && Nat.beq r.cells.length sz)
            (@Bool.casesOn (fun _ => Option V) (Nat.ble (Nat.add k sz) r.cells.length) none (some (.agg ((r.cells.drop k).take sz)))) (some (.agg r.cells))
        | false => r.cells[k]?
      | none => none
    | none => none
  | x => loadV (stF σ) agg sz x
def idxSQ : V → V → Option V
  | .str s, .int _ j => match natQ j with
    | some m => match s[m]? with
      | some b => some (.int .u8 (Int.ofNat b.toNat))
      | none => none
    | none => none
  | _, _ => none
/-- what makes a row: is it a variable, how long, which row goes, the row -/
structure Mk where
  var : Bool
  len : Nat
  gone : Option Nat
  ob : Ob
def boxQ (e sz : Nat) (x : V) : Option Mk := @Bool.casesOn (fun _ => Option Mk) (Nat.beq x.cells.length sz && x.stays) none (some ⟨true, 0, none, ⟨e, sz, [x]⟩⟩)
def bsliceQ (e sz : Nat) (xs : List V) : Option Mk := @Bool.casesOn (fun _ => Option Mk) (xs.all fun x => Nat.beq x.cells.length sz && x.stays) none (some ⟨false, xs.length, none, ⟨e, sz, xs⟩⟩)
def mkQ (e sz bytes : Nat) (z : V) : V → Option Mk
  | .int k m => match k with
    | .i64 => match natQ m with
      | some j => @Bool.casesOn (fun _ => Option Mk) (Nat.ble (j * (bytes + 1)) 140737488355328) none (some ⟨false, j, none, ⟨e, sz, List.replicate j z⟩⟩)
      | none => none
    | _ => none
  | _ => none
def appendQ (σ : Tr (Option Ob)) (e sz bytes : Nat) (a b : V) : Option Mk := match dstRows (stF σ) e sz a, srcRows (stF σ) sz b with
  | some (base, idA), some src => @Bool.casesOn (fun _ => Option Mk) (Nat.ble ((base.length + src.length) * (bytes + 1)) 140737488355328) none (some ⟨false, base.length + src.length, idA, ⟨e, sz, base ++ src⟩⟩)
  | _, _ => none
def addRow (fl : Nat) (dst : Option Nat) (cs : CS) (m : Mk) : Option CS :=
  match m.gone with
  | none => some (CS.put ⟨cs.s, setP none (some m.ob) cs.nxt cs.σ, Nat.succ cs.nxt⟩ dst (@Bool.casesOn (fun _ => V) m.var (.own cs.nxt 0 m.len) (.ptr cs.nxt 0 0)))
  | some d => @Bool.casesOn (fun _ => Option CS) (Nat.ble fl d) none
      (some (CS.put ⟨cs.s, setP none (some m.ob) cs.nxt (setP none none d cs.σ), Nat.succ cs.nxt⟩ dst (@Bool.casesOn (fun _ => V) m.var (.own cs.nxt 0 m.len) (.ptr cs.nxt 0 0))))
inductive Out where
  | nx (cs : CS)
  | ex (id : Nat) (cs : CS)
  | rt (cs : CS)
  | bad
structure Rs where
  v : V
  σ : Tr (Option Ob)
  nxt : Nat
def CallT := FuncId → List V → Tr (Option Ob) → Nat → Nat → Option Rs
/-- what is left of an instruction when its words are known -/
structure BI where
  f : CallT → Nat → CS → Option CS
def pureB (dst : Option Nat) (g : CS → Option V) : BI := ⟨fun _ _ cs => match g cs with
  | some v => some (cs.put dst v)
  | none => none⟩
def movB (dst : Option Nat) (x : VX) : BI := ⟨fun _ _ cs => some (cs.put dst (x.ev cs.sf))⟩
def rowB (dst : Option Nat) (g : CS → Option Mk) : BI := ⟨fun _ fl cs => match g cs with
  | some m => addRow fl dst cs m
  | none => none⟩
def callIn (dst : Option Nat) (cs : CS) : Option Rs → Option CS
  | some r => some (CS.put ⟨cs.s, r.σ, r.nxt⟩ dst r.v)
  | none => none
def callInD (dst : Option Nat) (cs : CS) : Option Rs → Option CS
  | some r => @Bool.casesOn (fun _ => Option CS) r.v.noid none (some (cs.put dst r.v))
  | none => none
def callB (draw : Bool) (dst : Option Nat) (fx : VX) (xs : List VX) : BI := match draw with
  | true => ⟨fun call _ cs => match fx.ev cs.sf with
    | .fn f caps => callInD dst cs (call f (xs.map (·.ev cs.sf) ++ caps) cs.σ cs.nxt cs.nxt)
    | _ => none⟩
  | false => ⟨fun call fl cs => match fx.ev cs.sf with
    | .fn f caps => callIn dst cs (call f (xs.map (·.ev cs.sf) ++ caps) cs.σ cs.nxt fl)
    | _ => none⟩
def storeIn (dst : Option Nat) (fl sz : Nat) (xv : V) (cs : CS) : V → Option CS
  | .ptr id i0 c => @Bool.casesOn (fun _ => Option CS) (Nat.ble fl id) none (match getP none id cs.σ with
    | some ob => match ob.rows[i0]? with
      | some r => match setRowV r c sz xv with
        | some r' => some (CS.put ⟨cs.s, setP none (some ⟨ob.elem, ob.sz, ob.rows.set i0 r'⟩) id cs.σ, cs.nxt⟩ dst (.tup []))
        | none => none
      | none => none
    | none => none)
  | _ => none
def storeB (dst : Option Nat) (sz : Nat) (xa xv : VX) : BI := ⟨fun _ fl cs => storeIn dst fl sz (xv.ev cs.sf) cs (xa.ev cs.sf)⟩
def clearIn (dst : Option Nat) (fl sz : Nat) (z : V) (cs : CS) : V → Option CS
  | .own id off len => @Bool.casesOn (fun _ => Option CS) (Nat.ble fl id) none (match getP none id cs.σ with
    | some ob => @Bool.casesOn (fun _ => Option CS) (Nat.beq ob.sz sz && Nat.ble (off + len) ob.rows.length) none
        (some (CS.put ⟨cs.s, setP none (some ⟨ob.elem, ob.sz, ob.rows.take off ++ List.replicate len z ++ ob.rows.drop (off + len)⟩) id cs.σ, cs.nxt⟩ dst (.tup [])))
    | none => none)
  | _ => none
def clearB (draw : Bool) (dst : Option Nat) (sz : Nat) (z : V) (xv : VX) : BI := match draw with
  | true => ⟨fun _ _ _ => none⟩
  | false => ⟨fun _ fl cs => clearIn dst fl sz z cs (xv.ev cs.sf)⟩
def compO (draw : Bool) (dst : Option Nat) (op : VOp) : BI := match op with
  | .mov x => movB dst x
  | .pick c a b => pureB dst fun cs => pickQ (a.ev cs.sf) (b.ev cs.sf) (c.ev cs.sf)
  | .bin op x y => @FI.casesOn (fun _ => BI) (intBinQ op) fun g => pureB dst fun cs => binQ op g (y.ev cs.sf) (x.ev cs.sf)
  | .not x => pureB dst fun cs => notQ (x.ev cs.sf)
  | .neg x => pureB dst fun cs => negQ (x.ev cs.sf)
  | .convI k x => pureB dst fun cs => convQ k (x.ev cs.sf)
  | .idxA esz x i => pureB dst fun cs => idxQ cs.σ esz (x.ev cs.sf) (i.ev cs.sf)
  | .idxS x i => pureB dst fun cs => idxSQ (x.ev cs.sf) (i.ev cs.sf)
  | .load agg sz x => pureB dst fun cs => loadQ cs.σ agg sz (x.ev cs.sf)
  | .box e sz x => rowB dst fun cs => boxQ e sz (x.ev cs.sf)
  | .alloc e sz z => rowB dst fun _ => some ⟨true, 0, none, ⟨e, sz, [z]⟩⟩
  | .bslice e sz xs => rowB dst fun cs => bsliceQ e sz (xs.map (·.ev cs.sf))
  | .mk e sz bytes z x => rowB dst fun cs => mkQ e sz bytes z (x.ev cs.sf)
  | .append e sz bytes a b => rowB dst fun cs => appendQ cs.σ e sz bytes (a.ev cs.sf) (b.ev cs.sf)
  | .call f xs => callB draw dst f xs
  | .store sz a x => storeB dst sz a x
  | .clear sz z x => clearB draw dst sz z x
  | op => pureB dst fun cs => vpure (stF cs.σ) cs.sf op
def guardB (dst : Option Nat) (b : Bool) (B : BI) (call : CallT) (fl : Nat) (cs : CS) : V → Option CS
  | .bool c => @Bool.casesOn (fun _ => Option CS) (Bool.xor c b) (B.f call fl cs) (some (cs.put dst (.tup [])))
  | .tup [] => some (cs.put dst (.tup []))
  | .int _ _ => some (cs.put dst (.tup []))
  | _ => none
def compI (draw : Bool) (i : VIns) : BI := match i.g with
  | none => compO draw i.dst i.op
  | some (x, b) => ⟨fun call fl cs => guardB i.dst b (compO draw i.dst i.op) call fl cs (x.ev cs.sf)⟩
def evOpsN (draw : Bool) (call : CallT) (fl m : Nat) : List VIns → CS → Out :=
  @Nat.rec (fun _ => List VIns → CS → Out) (fun _ _ => .bad)
    (fun _ ih l cs => @List.casesOn VIns (fun _ => Out) l (.nx cs)
      (fun i l' => @BI.casesOn (fun _ => Out) (compI draw i) fun f => @Option.casesOn CS (fun _ => Out) (f call fl cs) .bad (ih l'))) m
def evOps (draw : Bool) (call : CallT) (fl : Nat) (l : List VIns) (cs : CS) : Out := evOpsN draw call fl 1000 l cs
def Tr.ofL : List V → Nat → Tr V → Tr V
  | [], _, t => t
  | v :: l, k, t => Tr.ofL l (Nat.succ k) (setP (.tup []) v k t)
def resQ (res : List VR) (cs : CS) : Option Rs := match resV ⟨cs.sf, stF cs.σ⟩ res with
  | some v => some ⟨v, cs.σ, cs.nxt⟩
  | none => none
def outQ (res : List VR) : Out → Option Rs
  | .nx cs => resQ res cs
  | .rt cs => resQ res cs
  | _ => none
def evF (run : Nat → VCode → CS → Out) (code : FuncId → Option VFn) : CallT := fun f args σ nxt fl => match code f with
  | none => none
  | some vf => @Bool.casesOn (fun _ => Option Rs) (Nat.ble args.length vf.n) none (outQ vf.res (run fl vf.code ⟨Tr.ofL args 0 .e, σ, nxt⟩))
def onNx (o : Out) (k : CS → Out) : Out := @Out.casesOn (fun _ => Out) o k (fun id cs => .ex id cs) (fun cs => .rt cs) .bad
def onEx (id : Nat) (o : Out) : Out := @Out.casesOn (fun _ => Out) o (fun cs => .nx cs) (fun j cs => @Bool.casesOn (fun _ => Out) (Nat.beq j id) (.ex j cs) (.nx cs)) (fun cs => .rt cs) .bad
def onB (v : V) (a b : Out) : Out := match v with
  | .bool c => @Bool.casesOn (fun _ => Out) c b a
  | _ => .bad
def evL (code : FuncId → Option VFn) (fuel : Nat) : Nat → VCode → CS → Out :=
  @Nat.rec (fun _ => Nat → VCode → CS → Out) (fun _ _ _ => .bad)
    (fun _ ih fl c cs => match c with
      | .skip => .nx cs
      | .reg draw l => evOps draw (evF ih code) fl l cs
      | .seq a b => onNx (ih fl a cs) fun cs' => ih fl b cs'
      | .cond c a b => onB (c.ev cs.sf) (ih fl a cs) (ih fl b cs)
      | .block id a => onEx id (ih fl a cs)
      | .loop a => onNx (ih fl a cs) fun cs' => ih fl (.loop a) cs'
      | .exit id => .ex id cs
      | .ret => .rt cs
      | .bad => .bad) fuel
end Go.Vc
namespace Go.Vc
def gL {α : Type} (d : α) : List Bool → Tr α → α
  | _, .e => d
  | [], .n _ v _ => v
  | b :: p, .n l _ r => gL d p (if b then l else r)
def sL {α : Type} (d v : α) : List Bool → Tr α → Tr α
  | [], .e => .n .e v .e
  | [], .n l _ r => .n l v r
  | b :: p, .e => if b then .n (sL d v p .e) d .e else .n .e d (sL d v p .e)
  | b :: p, .n l u r => if b then .n (sL d v p l) u r else .n l u (sL d v p r)
theorem getN_eq {α : Type} (d : α) : ∀ (f : Nat) (p : List Bool) (t : Tr α), p.length < f → getN d f p t = gL d p t
  | 0, _, _, h => by omega
  | f + 1, [], t, _ => by cases t <;> rfl
  | f + 1, b :: p, t, h => by
    cases t with
    | e => rfl
    | n l u r =>
      have ih := getN_eq d f p (if b then l else r) (by simpa using h)
      cases b <;> exact ih
theorem setN_eq {α : Type} (d v : α) : ∀ (f : Nat) (p : List Bool) (t : Tr α), p.length < f → setN d v f p t = sL d v p t
  | 0, _, _, h => by omega
  | f + 1, [], t, _ => by cases t <;> rfl
  | f + 1, b :: p, t, h => by
    have h' : p.length < f := by simpa using h
    cases t with
    | e => cases b <;> simp only [sL, Bool.false_eq_true, if_false, if_true] <;> rw [← setN_eq d v f p _ h'] <;> rfl
    | n l u r => cases b <;> simp only [sL, Bool.false_eq_true, if_false, if_true] <;> rw [← setN_eq d v f p _ h'] <;> rfl
theorem gL_e {α : Type} (d : α) (p : List Bool) : gL d p .e = d := by cases p <;> rfl
theorem gL_sL {α : Type} (d v : α) : ∀ (p q : List Bool) (t : Tr α), gL d q (sL d v p t) = if q = p then v else gL d q t
  | [], [], t => by cases t <;> simp [sL, gL]
  | [], b :: q, t => by cases t <;> simp [sL, gL, gL_e]
  | a :: p, [], t => by cases t <;> cases a <;> simp [sL, gL]
  | a :: p, b :: q, t => by
    cases t with
    | e =>
      have ih := gL_sL d v p q .e
      cases a <;> cases b <;> simp [sL, gL, gL_e, ih]
    | n l u r =>
      have ihl := gL_sL d v p q l
      have ihr := gL_sL d v p q r
      cases a <;> cases b <;> simp [sL, gL, ihl, ihr]
def pval : List Bool → Nat
  | [] => 0
  | b :: p => 2 * pval p + (if b then 1 else 2)
theorem pval_path : ∀ (f k : Nat), k < f → pval (pathF f k) = k
  | 0, _, h => by omega
  | f + 1, 0, _ => rfl
  | f + 1, k + 1, h => by
    have ih := pval_path f (k / 2) (by omega)
    have ih' : pval (pathF f (k.div 2)) = k / 2 := ih
    simp only [pathF, pval, ih']
    have h1 : Nat.mod k 2 = k % 2 := rfl
    by_cases hk : k % 2 = 0
    · have : Nat.beq (Nat.mod k 2) 0 = true := by rw [h1, hk]; rfl
      simp only [this, if_true]; omega
    · have hk1 : k % 2 = 1 := by omega
      have : Nat.beq (Nat.mod k 2) 0 = false := by rw [h1, hk1]; rfl
      simp only [this, Bool.false_eq_true, if_false]; omega
theorem plen : ∀ p : List Bool, p.length ≤ pval p
  | [] => Nat.le_refl _
  | b :: p => by have := plen p; simp only [List.length_cons, pval]; split <;> omega
theorem pathOf_len (k : Nat) : (pathOf k).length < k.succ := by
  have h1 := plen (pathOf k)
  have h2 : pval (pathOf k) = k := pval_path (k + 1) k (by omega)
  omega
theorem pathOf_inj {i k : Nat} (h : pathOf i = pathOf k) : i = k := by
  have h1 : pval (pathOf i) = i := pval_path (i + 1) i (by omega)
  have h2 : pval (pathOf k) = k := pval_path (k + 1) k (by omega)
  rw [← h1, ← h2, h]
theorem getP_set {α : Type} (d v : α) (i k : Nat) (t : Tr α) : getP d i (setP d v k t) = if i = k then v else getP d i t := by
  unfold getP setP
  rw [getN_eq _ _ _ _ (pathOf_len i), getN_eq _ _ _ _ (pathOf_len i), setN_eq _ _ _ _ _ (pathOf_len k), gL_sL]
  by_cases h : i = k
  · simp [h]
  · rw [if_neg h, if_neg (fun e => h (pathOf_inj e))]
theorem getP_e {α : Type} (d : α) (i : Nat) : getP d i .e = d := by
  unfold getP
  rw [getN_eq _ _ _ _ (pathOf_len i), gL_e]
theorem sf_put (cs : CS) (d : Option Nat) (v : V) : (cs.put d v).sf = putO cs.sf d v := by
  funext i
  cases d with
  | none => rfl
  | some d => show getP _ i (setP _ v d cs.s) = _; rw [getP_set]; rfl
theorem put_σ (cs : CS) (d : Option Nat) (v : V) : (cs.put d v).σ = cs.σ ∧ (cs.put d v).nxt = cs.nxt := by cases d <;> exact ⟨rfl, rfl⟩
theorem stF_set (σ : Tr (Option Ob)) (k : Nat) (o : Ob) : stF (setP none (some o) k σ) = upd (stF σ) k o := by
  funext i; show getP none i _ = _; rw [getP_set]; rfl
theorem stF_del (σ : Tr (Option Ob)) (k : Nat) : stF (setP none none k σ) = del (stF σ) k := by
  funext i; show getP none i _ = _; rw [getP_set]; rfl
mutual
def VRel (R : Nat → Nat → Prop) : V → V → Prop
  | .own id off len, u => ∃ id', u = .own id' off len ∧ R id id'
  | .ptr id i k, u => ∃ id', u = .ptr id' i k ∧ R id id'
  | .sl sz rows, u => ∃ rows', u = .sl sz rows' ∧ VRelL R rows rows'
  | .rp v, u => ∃ v', u = .rp v' ∧ VRel R v v'
  | .fn f caps, u => ∃ caps', u = .fn f caps' ∧ VRelL R caps caps'
  | .iface t v, u => ∃ v', u = .iface t v' ∧ VRel R v v'
  | .agg c, u => ∃ c', u = .agg c' ∧ VRelL R c c'
  | .tup c, u => ∃ c', u = .tup c' ∧ VRelL R c c'
  | .undef, u => u = .undef
  | .int k n, u => u = .int k n
  | .bool b, u => u = .bool b
  | .str s, u => u = .str s
  | .nils, u => u = .nils
  | .nilp, u => u = .nilp
  | .nilfn, u => u = .nilfn
  | .niliface, u => u = .niliface
  | .raw v, u => u = .raw v
def VRelL (R : Nat → Nat → Prop) : List V → List V → Prop
  | [], l => l = []
  | v :: vs, l => ∃ u us, l = u :: us ∧ VRel R v u ∧ VRelL R vs us
end
section
variable {R R' : Nat → Nat → Prop}
mutual
theorem VRel.mono (h : ∀ a b, R a b → R' a b) : ∀ (v u : V), VRel R v u → VRel R' v u
  | .own id off len, u, g => by simp only [VRel] at g ⊢; obtain ⟨i, e, r⟩ := g; exact ⟨i, e, h _ _ r⟩
  | .ptr id i k, u, g => by simp only [VRel] at g ⊢; obtain ⟨i, e, r⟩ := g; exact ⟨i, e, h _ _ r⟩
  | .sl sz rows, u, g => by simp only [VRel] at g ⊢; obtain ⟨i, e, r⟩ := g; exact ⟨i, e, VRelL.mono h _ _ r⟩
  | .rp v, u, g => by simp only [VRel] at g ⊢; obtain ⟨i, e, r⟩ := g; exact ⟨i, e, VRel.mono h _ _ r⟩
  | .fn f caps, u, g => by simp only [VRel] at g ⊢; obtain ⟨i, e, r⟩ := g; exact ⟨i, e, VRelL.mono h _ _ r⟩
  | .iface t v, u, g => by simp only [VRel] at g ⊢; obtain ⟨i, e, r⟩ := g; exact ⟨i, e, VRel.mono h _ _ r⟩
  | .agg c, u, g => by simp only [VRel] at g ⊢; obtain ⟨i, e, r⟩ := g; exact ⟨i, e, VRelL.mono h _ _ r⟩
  | .tup c, u, g => by simp only [VRel] at g ⊢; obtain ⟨i, e, r⟩ := g; exact ⟨i, e, VRelL.mono h _ _ r⟩
  | .undef, u, g => by simpa [VRel] using g
  | .int k n, u, g => by simpa [VRel] using g
  | .bool b, u, g => by simpa [VRel] using g
  | .str s, u, g => by simpa [VRel] using g
  | .nils, u, g => by simpa [VRel] using g
  | .nilp, u, g => by simpa [VRel] using g
  | .nilfn, u, g => by simpa [VRel] using g
  | .niliface, u, g => by simpa [VRel] using g
  | .raw v, u, g => by simpa [VRel] using g
theorem VRelL.mono (h : ∀ a b, R a b → R' a b) : ∀ (v u : List V), VRelL R v u → VRelL R' v u
  | [], u, g => by simpa [VRelL] using g
  | v :: vs, u, g => by
    simp only [VRelL] at g ⊢
    obtain ⟨a, as, e, r, rs⟩ := g
    exact ⟨a, as, e, VRel.mono h _ _ r, VRelL.mono h _ _ rs⟩
end
mutual
theorem noid_refl : ∀ (v : V), v.noid = true → VRel R v v
  | .own .., g => by simp [V.noid] at g
  | .ptr .., g => by simp [V.noid] at g
  | .sl sz rows, g => by simp only [V.noid] at g; simp only [VRel]; exact ⟨rows, rfl, noidL_refl rows g⟩
  | .rp v, g => by simp only [V.noid] at g; simp only [VRel]; exact ⟨v, rfl, noid_refl v g⟩
  | .fn f caps, g => by simp only [V.noid] at g; simp only [VRel]; exact ⟨caps, rfl, noidL_refl caps g⟩
  | .iface t v, g => by simp only [V.noid] at g; simp only [VRel]; exact ⟨v, rfl, noid_refl v g⟩
  | .agg c, g => by simp only [V.noid] at g; simp only [VRel]; exact ⟨c, rfl, noidL_refl c g⟩
  | .tup c, g => by simp only [V.noid] at g; simp only [VRel]; exact ⟨c, rfl, noidL_refl c g⟩
  | .undef, _ => by simp [VRel]
  | .int k n, _ => by simp [VRel]
  | .bool b, _ => by simp [VRel]
  | .str s, _ => by simp [VRel]
  | .nils, _ => by simp [VRel]
  | .nilp, _ => by simp [VRel]
  | .nilfn, _ => by simp [VRel]
  | .niliface, _ => by simp [VRel]
  | .raw v, _ => by simp [VRel]
theorem noidL_refl : ∀ (l : List V), noidL l = true → VRelL R l l
  | [], _ => by simp [VRelL]
  | v :: vs, g => by
    simp only [noidL, Bool.and_eq_true] at g
    simp only [VRelL]
    exact ⟨v, vs, rfl, noid_refl v g.1, noidL_refl vs g.2⟩
end
mutual
theorem noid_eq : ∀ (v u : V), v.noid = true → VRel R v u → u = v
  | .own .., _, g, _ => by simp [V.noid] at g
  | .ptr .., _, g, _ => by simp [V.noid] at g
  | .sl sz rows, u, g, h => by simp only [V.noid] at g; simp only [VRel] at h; obtain ⟨r, rfl, h⟩ := h; rw [noidL_eq rows r g h]
  | .rp v, u, g, h => by simp only [V.noid] at g; simp only [VRel] at h; obtain ⟨r, rfl, h⟩ := h; rw [noid_eq v r g h]
  | .fn f caps, u, g, h => by simp only [V.noid] at g; simp only [VRel] at h; obtain ⟨r, rfl, h⟩ := h; rw [noidL_eq caps r g h]
  | .iface t v, u, g, h => by simp only [V.noid] at g; simp only [VRel] at h; obtain ⟨r, rfl, h⟩ := h; rw [noid_eq v r g h]
  | .agg c, u, g, h => by simp only [V.noid] at g; simp only [VRel] at h; obtain ⟨r, rfl, h⟩ := h; rw [noidL_eq c r g h]
  | .tup c, u, g, h => by simp only [V.noid] at g; simp only [VRel] at h; obtain ⟨r, rfl, h⟩ := h; rw [noidL_eq c r g h]
  | .undef, u, _, h => by simpa [VRel] using h
  | .int k n, u, _, h => by simpa [VRel] using h
  | .bool b, u, _, h => by simpa [VRel] using h
  | .str s, u, _, h => by simpa [VRel] using h
  | .nils, u, _, h => by simpa [VRel] using h
  | .nilp, u, _, h => by simpa [VRel] using h
  | .nilfn, u, _, h => by simpa [VRel] using h
  | .niliface, u, _, h => by simpa [VRel] using h
  | .raw v, u, _, h => by simpa [VRel] using h
theorem noidL_eq : ∀ (l m : List V), noidL l = true → VRelL R l m → m = l
  | [], m, _, h => by simpa [VRelL] using h
  | v :: vs, m, g, h => by
    simp only [noidL, Bool.and_eq_true] at g
    simp only [VRelL] at h
    obtain ⟨u, us, rfl, h1, h2⟩ := h
    rw [noid_eq v u g.1 h1, noidL_eq vs us g.2 h2]
end
theorem VRelL.nil_iff {l : List V} : VRelL R [] l ↔ l = [] := by simp [VRelL]
theorem VRelL.cons_iff {v : V} {vs l : List V} : VRelL R (v :: vs) l ↔ ∃ u us, l = u :: us ∧ VRel R v u ∧ VRelL R vs us := by simp [VRelL]
theorem VRelL.length : ∀ {l m : List V}, VRelL R l m → m.length = l.length
  | [], _, h => by rw [VRelL.nil_iff] at h; simp [h]
  | v :: vs, _, h => by obtain ⟨u, us, rfl, _, h2⟩ := VRelL.cons_iff.1 h; simp [h2.length]
theorem VRelL.get : ∀ {l m : List V}, VRelL R l m → ∀ {i : Nat} {v : V}, l[i]? = some v → ∃ u, m[i]? = some u ∧ VRel R v u
  | [], _, _, i, v, hv => by simp at hv
  | v :: vs, _, h, i, x, hv => by
    obtain ⟨u, us, rfl, h1, h2⟩ := VRelL.cons_iff.1 h
    cases i with
    | zero => simp at hv; subst hv; exact ⟨u, by simp, h1⟩
    | succ i => simp at hv; simpa using h2.get hv
theorem VRelL.append : ∀ {l m l' m' : List V}, VRelL R l m → VRelL R l' m' → VRelL R (l ++ l') (m ++ m')
  | [], _, _, _, h, h' => by rw [VRelL.nil_iff] at h; subst h; simpa using h'
  | v :: vs, _, _, _, h, h' => by
    obtain ⟨u, us, rfl, h1, h2⟩ := VRelL.cons_iff.1 h
    exact VRelL.cons_iff.2 ⟨u, us ++ _, by simp, h1, h2.append h'⟩
theorem VRelL.take : ∀ {l m : List V}, VRelL R l m → ∀ i, VRelL R (l.take i) (m.take i)
  | [], _, h, i => by rw [VRelL.nil_iff] at h; subst h; simp [VRelL]
  | v :: vs, _, h, i => by
    obtain ⟨u, us, rfl, h1, h2⟩ := VRelL.cons_iff.1 h
    cases i with
    | zero => simp [VRelL]
    | succ i => exact VRelL.cons_iff.2 ⟨u, us.take i, by simp, h1, h2.take i⟩
theorem VRelL.drop : ∀ {l m : List V}, VRelL R l m → ∀ i, VRelL R (l.drop i) (m.drop i)
  | [], _, h, i => by rw [VRelL.nil_iff] at h; subst h; simp [VRelL]
  | v :: vs, _, h, i => by
    obtain ⟨u, us, rfl, h1, h2⟩ := VRelL.cons_iff.1 h
    cases i with
    | zero => exact VRelL.cons_iff.2 ⟨u, us, by simp, h1, h2⟩
    | succ i => simpa using h2.drop i
theorem VRelL.set : ∀ {l m : List V}, VRelL R l m → ∀ (i : Nat) {v u : V}, VRel R v u → VRelL R (l.set i v) (m.set i u)
  | [], _, h, i, _, _, _ => by rw [VRelL.nil_iff] at h; subst h; simp [VRelL]
  | v :: vs, _, h, i, x, y, hx => by
    obtain ⟨u, us, rfl, h1, h2⟩ := VRelL.cons_iff.1 h
    cases i with
    | zero => exact VRelL.cons_iff.2 ⟨y, us, by simp, hx, h2⟩
    | succ i => exact VRelL.cons_iff.2 ⟨u, us.set i y, by simp, h1, h2.set i hx⟩
theorem VRelL.replicate {v u : V} (h : VRel R v u) : ∀ n, VRelL R (List.replicate n v) (List.replicate n u)
  | 0 => by simp [VRelL]
  | n + 1 => VRelL.cons_iff.2 ⟨u, List.replicate n u, by simp [List.replicate_succ], h, VRelL.replicate h n⟩
theorem VRelL.one {v u : V} (h : VRel R v u) : VRelL R [v] [u] := VRelL.cons_iff.2 ⟨u, [], rfl, h, by simp [VRelL]⟩
theorem VRel.int_iff {k : IntKind} {n : Int} {u : V} : VRel R (.int k n) u ↔ u = .int k n := by simp [VRel]
theorem VRel.bool_iff {b : Bool} {u : V} : VRel R (.bool b) u ↔ u = .bool b := by simp [VRel]
theorem VRel.str_iff {b : List UInt8} {u : V} : VRel R (.str b) u ↔ u = .str b := by simp [VRel]
theorem VRel.agg_iff {b : List V} {u : V} : VRel R (.agg b) u ↔ ∃ c, u = .agg c ∧ VRelL R b c := by simp [VRel]
theorem VRel.agg {l m : List V} (h : VRelL R l m) : VRel R (.agg l) (.agg m) := VRel.agg_iff.2 ⟨m, rfl, h⟩
theorem VRel.rp {l m : V} (h : VRel R l m) : VRel R (.rp l) (.rp m) := by simp only [VRel]; exact ⟨m, rfl, h⟩
theorem VRel.cells {v u : V} (h : VRel R v u) : VRelL R v.cells u.cells := by
  cases v <;> simp only [VRel] at h
  case agg c => obtain ⟨c', rfl, h⟩ := h; simpa [V.cells] using h
  all_goals first
    | (subst h; exact VRelL.one (by simp [VRel]))
    | (obtain ⟨c, rfl, h⟩ := h; exact VRelL.one (by simp only [VRel]; exact ⟨_, rfl, h⟩))
theorem VRel.stays {v u : V} (h : VRel R v u) : u.stays = v.stays := by
  cases v <;> simp only [VRel] at h <;> first
    | (subst h; rfl)
    | (obtain ⟨c, rfl, h⟩ := h; rfl)
end
end Go.Vc
namespace Go.Vc
/-- rows that are live, one by one -/
def Lv (R : Nat → Nat → Prop) (σc σ : Store) : Prop := ∀ c a o, R c a → σc c = some o → ∃ rows', σ a = some ⟨o.elem, o.sz, rows'⟩ ∧ VRelL R o.rows rows'
theorem Lv.sup {R : Nat → Nat → Prop} {σc σ σ1 : Store} (h : Lv R σc σ) (hs : SubStore σ σ1) : Lv R σc σ1 := fun c a o hc ho => by
  obtain ⟨rows', h1, h2⟩ := h c a o hc ho
  exact ⟨rows', hs _ _ h1, h2⟩
structure MRel (K : Store) (fl : Nat) (R : Nat → Nat → Prop) (σc : Store) (nxt : Nat) (σ : Store) : Prop where
  dom : ∀ c a, R c a → c < nxt
  live : Lv R σc σ
  inj : ∀ c c' a o o', R c a → R c' a → σc c = some o → σc c' = some o' → c = c'
  fn : ∀ c a a' o, R c a → R c a' → σc c = some o → a = a'
  keep : SubStore K σ
  kfl : ∀ a o c oc, K a = some o → R c a → σc c = some oc → c < fl
section
variable {R : Nat → Nat → Prop} {K σc σ : Store} {fl nxt : Nat}
theorem MRel.write (h : MRel K fl R σc nxt σ) {c a : Nat} {o : Ob} (hc : R c a) (ho : σc c = some o) (hf : fl ≤ c) {rows rows' : List V} (hr : VRelL R rows rows') :
    MRel K fl R (upd σc c ⟨o.elem, o.sz, rows⟩) nxt (upd σ a ⟨o.elem, o.sz, rows'⟩) := by
  have hlive : ∀ i x, upd σc c ⟨o.elem, o.sz, rows⟩ i = some x → ∃ y, σc i = some y := fun i x hx => by
    by_cases e : i = c
    · rw [e]; exact ⟨o, ho⟩
    · rw [upd_ne e] at hx; exact ⟨x, hx⟩
  refine ⟨h.dom, ?_, ?_, ?_, ?_, ?_⟩
  · intro c1 a1 o1 h1 h2
    by_cases e : c1 = c
    · subst e
      have : a1 = a := h.fn c1 a1 a o h1 hc ho
      subst this
      rw [upd_same] at h2
      simp only [Option.some.injEq] at h2
      subst h2
      exact ⟨rows', upd_same, hr⟩
    · rw [upd_ne e] at h2
      have hne : a1 ≠ a := fun e' => by subst e'; exact e (h.inj c1 c a1 o1 o h1 hc h2 ho)
      rw [upd_ne hne]
      exact h.live c1 a1 o1 h1 h2
  · intro c1 c2 a1 o1 o2 h1 h2 h3 h4
    obtain ⟨y, hy⟩ := hlive _ _ h3
    obtain ⟨z, hz⟩ := hlive _ _ h4
    exact h.inj c1 c2 a1 y z h1 h2 hy hz
  · intro c1 a1 a2 o1 h1 h2 h3
    obtain ⟨y, hy⟩ := hlive _ _ h3
    exact h.fn c1 a1 a2 y h1 h2 hy
  · intro i x hx
    have hne : i ≠ a := fun e => by subst e; have := h.kfl i x c o hx hc ho; omega
    rw [upd_ne hne]
    exact h.keep i x hx
  · intro a1 o1 c1 oc h1 h2 h3
    obtain ⟨y, hy⟩ := hlive _ _ h3
    exact h.kfl a1 o1 c1 y h1 h2 hy
theorem MRel.rem (h : MRel K fl R σc nxt σ) {c a : Nat} {o : Ob} (hc : R c a) (ho : σc c = some o) (hf : fl ≤ c) :
    MRel K fl R (del σc c) nxt (del σ a) := by
  have hlive : ∀ i x, del σc c i = some x → i ≠ c ∧ σc i = some x := fun i x hx => by
    by_cases e : i = c
    · subst e; simp [Vc.del] at hx
    · rw [del_ne e] at hx; exact ⟨e, hx⟩
  refine ⟨h.dom, ?_, ?_, ?_, ?_, ?_⟩
  · intro c1 a1 o1 h1 h2
    obtain ⟨e, h2⟩ := hlive _ _ h2
    have hne : a1 ≠ a := fun e' => by subst e'; exact e (h.inj c1 c a1 o1 o h1 hc h2 ho)
    rw [del_ne hne]
    exact h.live c1 a1 o1 h1 h2
  · intro c1 c2 a1 o1 o2 h1 h2 h3 h4
    exact h.inj c1 c2 a1 o1 o2 h1 h2 (hlive _ _ h3).2 (hlive _ _ h4).2
  · intro c1 a1 a2 o1 h1 h2 h3
    exact h.fn c1 a1 a2 o1 h1 h2 (hlive _ _ h3).2
  · intro i x hx
    have hne : i ≠ a := fun e => by subst e; have := h.kfl i x c o hx hc ho; omega
    rw [del_ne hne]
    exact h.keep i x hx
  · intro a1 o1 c1 oc h1 h2 h3
    exact h.kfl a1 o1 c1 oc h1 h2 (hlive _ _ h3).2
def ext (R : Nat → Nat → Prop) (c a : Nat) : Nat → Nat → Prop := fun x y => R x y ∨ (x = c ∧ y = a)
theorem ext_le (c a : Nat) : ∀ x y, R x y → ext R c a x y := fun _ _ h => .inl h
theorem MRel.new (h : MRel K fl R σc nxt σ) {i : Nat} (hi : σ i = none) {ob : Ob} {rows' : List V} (hr : VRelL R ob.rows rows') :
    MRel K fl (ext R nxt i) (upd σc nxt ob) (nxt + 1) (upd σ i ⟨ob.elem, ob.sz, rows'⟩) := by
  have hlt : ∀ c a, R c a → c ≠ nxt := fun c a hc => by have := h.dom c a hc; omega
  have hold : ∀ c a o, R c a → upd σc nxt ob c = some o → σc c = some o ∧ a ≠ i := fun c a o hc ho => by
    rw [upd_ne (hlt c a hc)] at ho
    refine ⟨ho, fun e => ?_⟩
    subst e
    obtain ⟨r, hr, _⟩ := h.live c a o hc ho
    rw [hi] at hr; cases hr
  refine ⟨?_, ?_, ?_, ?_, h.keep.upd hi, ?_⟩
  · rintro c a (hc | ⟨rfl, rfl⟩)
    · have := h.dom c a hc; omega
    · omega
  · rintro c a o (hc | ⟨rfl, rfl⟩) ho
    · obtain ⟨h1, h2⟩ := hold c a o hc ho
      obtain ⟨r, h3, h4⟩ := h.live c a o hc h1
      rw [upd_ne h2]
      exact ⟨r, h3, VRelL.mono (ext_le nxt i) _ _ h4⟩
    · rw [upd_same] at ho
      simp only [Option.some.injEq] at ho
      subst ho
      exact ⟨rows', upd_same, VRelL.mono (ext_le _ _) _ _ hr⟩
  · rintro c c' a o o' (hc | ⟨rfl, rfl⟩) (hc' | ⟨rfl, e⟩) ho ho'
    · exact h.inj c c' a o o' hc hc' (hold _ _ _ hc ho).1 (hold _ _ _ hc' ho').1
    · exact absurd e (hold _ _ _ hc ho).2
    · exact absurd rfl (hold _ _ _ hc' ho').2
    · rfl
  · rintro c a a' o (hc | ⟨rfl, rfl⟩) (hc' | ⟨e, rfl⟩) ho
    · exact h.fn c a a' o hc hc' (hold _ _ _ hc ho).1
    · exact absurd e (hlt _ _ hc)
    · exact absurd rfl (hlt _ _ hc')
    · rfl
  · rintro a o c oc hk (hc | ⟨rfl, rfl⟩) ho
    · exact h.kfl a o c oc hk hc (hold _ _ _ hc ho).1
    · have := h.keep a o hk
      rw [hi] at this; cases this
def okX : VX → Bool
  | .t _ => true
  | .c v => v.noid
def okOp (op : VOp) : Bool := op.xs.all okX && (match op with
  | .alloc _ _ z => z.noid
  | .build zero _ => noidL zero
  | .clear _ z _ => z.noid
  | .mk _ _ _ z _ => z.noid
  | _ => true)
def okIns (i : VIns) : Bool := okOp i.op && (match i.g with
  | some (x, _) => okX x
  | none => true)
def okCode : VCode → Bool
  | .reg _ l => l.all okIns
  | .seq a b => okCode a && okCode b
  | .cond c a b => okX c && (okCode a && okCode b)
  | .block _ a => okCode a
  | .loop a => okCode a
  | _ => true
def okRes : VR → Bool
  | .tmp x => okX x
  | .cell _ _ x => okX x
  | .bad => true
def okFn (f : VFn) : Bool := okCode f.code && f.res.all okRes
variable {s s' : Nat → V}
theorem ev_rel (hs : ∀ i, VRel R (s i) (s' i)) {x : VX} (hx : okX x = true) : VRel R (x.ev s) (x.ev s') := by
  cases x with
  | t n => exact hs n
  | c v => exact noid_refl v hx
theorem evs_rel (hs : ∀ i, VRel R (s i) (s' i)) : ∀ {xs : List VX}, xs.all okX = true → VRelL R (xs.map (·.ev s)) (xs.map (·.ev s'))
  | [], _ => by simp [VRelL]
  | x :: xs, h => by
    simp only [List.all_cons, Bool.and_eq_true] at h
    exact VRelL.cons_iff.2 ⟨_, _, rfl, ev_rel hs h.1, evs_rel hs h.2⟩
theorem intBin_noid {op : BinOp} {k : IntKind} {a b : Int} {v : V} (h : intBin op k a b = some v) : v.noid = true := by
  unfold intBin at h
  split at h <;> first
    | (simp only [Option.some.injEq] at h; subst h; rfl)
    | (split at h <;> first | (simp only [Option.some.injEq] at h; subst h; rfl) | cases h)
    | cases h
theorem strBin_noid {op : BinOp} {a b : List UInt8} {v : V} (h : strBin op a b = some v) : v.noid = true := by
  unfold strBin at h
  split at h <;> first
    | (simp only [Option.some.injEq] at h; subst h; rfl)
    | cases h
theorem binV_rel {op : BinOp} {a b a' b' v : V} (ha : VRel R a a') (hb : VRel R b b') (h : binV op a b = some v) : a' = a ∧ b' = b ∧ v.noid = true := by
  unfold binV at h
  split at h
  · simp only [VRel] at ha hb
    split at h
    · exact ⟨ha, hb, intBin_noid h⟩
    · cases h
  · simp only [VRel] at ha hb
    exact ⟨ha, hb, strBin_noid h⟩
  · cases h
theorem lenV_rel {b : Bool} {x x' v : V} (hx : VRel R x x') (h : lenV b x = some v) : ∃ v', lenV b x' = some v' ∧ VRel R v v' := by
  unfold lenV at h
  split at h <;> simp only [Option.some.injEq, reduceCtorEq] at h <;> simp only [VRel] at hx <;> subst h
  · obtain ⟨i, rfl, _⟩ := hx; exact ⟨_, rfl, by simp [VRel]⟩
  · obtain ⟨i, rfl, hr⟩ := hx; exact ⟨_, rfl, by simp [VRel, hr.length]⟩
  · subst hx; exact ⟨_, rfl, by simp [VRel]⟩
  · subst hx; exact ⟨_, rfl, by simp [VRel]⟩
theorem subCells_rel {agg : Bool} {off sz : Nat} {vs us : List V} {v : V} (h : VRelL R vs us) (hv : subCells agg off sz vs = some v) : ∃ v', subCells agg off sz us = some v' ∧ VRel R v v' := by
  unfold subCells at hv ⊢
  cases agg
  · simpa using h.get hv
  · simp only [if_true, Option.some.injEq] at hv ⊢
    subst hv
    exact ⟨_, rfl, VRel.agg ((h.drop off).take sz)⟩
theorem fldV_rel {agg : Bool} {off sz : Nat} {x x' v : V} (hx : VRel R x x') (h : fldV agg off sz x = some v) : ∃ v', fldV agg off sz x' = some v' ∧ VRel R v v' := by
  unfold fldV at h
  split at h
  · obtain ⟨c, rfl, hr⟩ := VRel.agg_iff.1 hx
    exact subCells_rel hr h
  · cases h
theorem fldAV_rel {agg : Bool} {off sz : Nat} {x x' v : V} (hx : VRel R x x') (h : fldAV agg off sz x = some v) : ∃ v', fldAV agg off sz x' = some v' ∧ VRel R v v' := by
  unfold fldAV at h
  split at h
  · simp only [VRel] at hx
    obtain ⟨i, rfl, hr⟩ := hx
    simp only [Option.some.injEq] at h; subst h
    exact ⟨_, rfl, by simp only [VRel]; exact ⟨i, rfl, hr⟩⟩
  · simp only [VRel] at hx
    obtain ⟨u, rfl, hr⟩ := hx
    simp only [Option.map_eq_some_iff] at h
    obtain ⟨w, hw, rfl⟩ := h
    obtain ⟨w', h1, h2⟩ := subCells_rel hr.cells hw
    exact ⟨.rp w', by simp [fldAV, h1], VRel.rp h2⟩
  · cases h
theorem idxAV_rel (hm : Lv R σc σ) {esz : Nat} {x i x' i' v : V} (hx : VRel R x x') (hi : VRel R i i') (h : idxAV σc esz x i = some v) : ∃ v', idxAV σ esz x' i' = some v' ∧ VRel R v v' := by
  unfold idxAV at h
  split at h
  · simp only [VRel] at hx hi
    obtain ⟨a, rfl, ha⟩ := hx
    subst hi
    split at h
    · rename_i ob hob
      obtain ⟨rows', h1, h2⟩ := hm _ _ _ ha hob
      split at h
      · rename_i hc
        simp only [Option.some.injEq] at h; subst h
        refine ⟨_, ?_, by simp only [VRel]; exact ⟨a, rfl, ha⟩⟩
        simp only [idxAV, h1]
        rw [if_pos hc]
      · cases h
    · cases h
  · simp only [VRel] at hx hi
    obtain ⟨rows', rfl, hr⟩ := hx
    subst hi
    split at h
    · rename_i hc
      split at h
      · rename_i r hrr
        simp only [Option.some.injEq] at h; subst h
        obtain ⟨u, h1, h2⟩ := hr.get hrr
        refine ⟨.rp u, ?_, VRel.rp h2⟩
        simp only [idxAV, h1]
        rw [if_pos hc]
      · cases h
    · cases h
  · cases h
theorem idxAAV_rel {agg : Bool} {n esz : Nat} {x i x' i' v : V} (hx : VRel R x x') (hi : VRel R i i') (h : idxAAV agg n esz x i = some v) : ∃ v', idxAAV agg n esz x' i' = some v' ∧ VRel R v v' := by
  unfold idxAAV at h
  split at h
  · simp only [VRel] at hx hi
    obtain ⟨a, rfl, ha⟩ := hx
    subst hi
    split at h
    · rename_i hc
      simp only [Option.some.injEq] at h; subst h
      exact ⟨_, by simp only [idxAAV]; rw [if_pos hc], by simp only [VRel]; exact ⟨a, rfl, ha⟩⟩
    · cases h
  · simp only [VRel] at hx hi
    obtain ⟨u, rfl, hr⟩ := hx
    subst hi
    split at h
    · rename_i hc
      simp only [Option.map_eq_some_iff] at h
      obtain ⟨w, hw, rfl⟩ := h
      obtain ⟨w', h1, h2⟩ := subCells_rel hr.cells hw
      exact ⟨.rp w', by simp only [idxAAV]; rw [if_pos hc, h1]; rfl, VRel.rp h2⟩
    · cases h
  · cases h
theorem idxVV_rel {agg : Bool} {n esz : Nat} {x i x' i' v : V} (hx : VRel R x x') (hi : VRel R i i') (h : idxVV agg n esz x i = some v) : ∃ v', idxVV agg n esz x' i' = some v' ∧ VRel R v v' := by
  unfold idxVV at h
  split at h
  · obtain ⟨c, rfl, hr⟩ := VRel.agg_iff.1 hx
    rw [VRel.int_iff] at hi
    subst hi
    split at h
    · rename_i hc
      obtain ⟨w', h1, h2⟩ := subCells_rel hr h
      exact ⟨w', by simp only [idxVV]; rw [if_pos hc, h1], h2⟩
    · cases h
  · cases h
theorem idxSV_rel {x i x' i' v : V} (hx : VRel R x x') (hi : VRel R i i') (h : idxSV x i = some v) : ∃ v', idxSV x' i' = some v' ∧ VRel R v v' := by
  have h0 := h
  unfold idxSV at h
  split at h
  · rw [VRel.str_iff] at hx
    rw [VRel.int_iff] at hi
    subst hx hi
    refine ⟨v, h0, ?_⟩
    split at h
    · split at h
      · simp only [Option.some.injEq] at h; subst h; simp [VRel]
      · cases h
    · cases h
  · cases h
theorem loadV_rel (hm : Lv R σc σ) {agg : Bool} {sz : Nat} {x x' v : V} (hx : VRel R x x') (h : loadV σc agg sz x = some v) : ∃ v', loadV σ agg sz x' = some v' ∧ VRel R v v' := by
  unfold loadV at h
  split at h
  · simp only [VRel] at hx
    obtain ⟨a, rfl, ha⟩ := hx
    split at h
    · rename_i ob hob
      obtain ⟨rows', h1, h2⟩ := hm _ _ _ ha hob
      split at h
      · rename_i r hr
        obtain ⟨r', h3, h4⟩ := h2.get hr
        have hl := h4.cells.length
        simp only [loadV, h1, h3, hl]
        cases agg
        · simp only [Bool.false_eq_true, if_false] at h ⊢
          exact h4.cells.get h
        · simp only [if_true] at h ⊢
          split at h
          · rename_i hc
            simp only [Option.some.injEq] at h; subst h
            exact ⟨_, by rw [if_pos hc], VRel.agg h4.cells⟩
          · split at h
            · rename_i hc hc'
              rw [if_neg hc, if_pos hc']
              simp only [Option.some.injEq] at h; subst h
              exact ⟨_, rfl, VRel.agg ((h4.cells.drop _).take _)⟩
            · cases h
      · cases h
    · cases h
  · simp only [VRel] at hx
    obtain ⟨u, rfl, hr⟩ := hx
    rename_i w
    have hl := hr.cells.length
    cases agg
    · simp only [Bool.false_eq_true, if_false] at h
      split at h
      · cases h
      · simp only [Option.some.injEq] at h; subst h
        rename_i hna
        refine ⟨u, ?_, hr⟩
        cases u <;> simp only [loadV, Bool.false_eq_true, if_false]
        cases w <;> simp only [VRel] at hr <;> simp at hr hna
    · simp only [if_true] at h
      split at h
      · rename_i hc
        simp only [Option.some.injEq] at h; subst h
        refine ⟨_, ?_, VRel.agg hr.cells⟩
        simp only [loadV, hl, if_true]
        rw [if_pos hc]
      · cases h
  · cases h
theorem boundV_rel {d : Int} : ∀ {o o' : Option V}, (match o, o' with | none, none => True | some x, some x' => VRel R x x' | _, _ => False) → ∀ {j : Int}, boundV d o = some j → boundV d o' = some j
  | none, none, _, j, h => h
  | some x, some x', hx, j, h => by
    simp only at hx
    cases x <;> simp only [boundV] at h <;> first | cases h | skip
    rw [VRel.int_iff] at hx
    subst hx
    rfl
  | none, some _, hx, _, _ => hx.elim
  | some _, none, hx, _, _ => hx.elim
theorem sliceV_rel (hm : Lv R σc σ) {esz : Nat} {x x' v : V} {lo hi mx lo' hi' mx' : Option V} (hx : VRel R x x')
    (h1 : ∀ d j, boundV d lo = some j → boundV d lo' = some j) (h2 : ∀ d j, boundV d hi = some j → boundV d hi' = some j) (h3 : ∀ d j, boundV d mx = some j → boundV d mx' = some j)
    (h : sliceV σc esz x lo hi mx = some v) : ∃ v', sliceV σ esz x' lo' hi' mx' = some v' ∧ VRel R v v' := by
  unfold sliceV at h
  split at h
  · simp only [VRel] at hx
    obtain ⟨a, rfl, ha⟩ := hx
    split at h
    · rename_i l hh m e1 e2 e3
      split at h
      · rename_i hc
        simp only [Option.some.injEq] at h; subst h
        have hsz : szIs σ a esz = true := by
          have hz := hc.2.2.2.2
          unfold szIs at hz ⊢
          split at hz
          · rename_i ob hob
            obtain ⟨rows', g1, g2⟩ := hm _ _ _ ha hob
            rw [g1]; exact hz
          · cases hz
        refine ⟨_, ?_, by simp only [VRel]; exact ⟨a, rfl, ha⟩⟩
        simp only [sliceV, h1 _ _ e1, h2 _ _ e2, h3 _ _ e3]
        rw [if_pos ⟨hc.1, hc.2.1, hc.2.2.1, hc.2.2.2.1, hsz⟩]
      · cases h
    · cases h
  · simp only [VRel] at hx
    obtain ⟨rows', rfl, hr⟩ := hx
    have hl := hr.length
    split at h
    · rename_i l hh m e1 e2 e3
      split at h
      · rename_i hc
        simp only [Option.some.injEq] at h; subst h
        refine ⟨.sl _ ((rows'.drop l.toNat).take (hh.toNat - l.toNat)), ?_, by simp only [VRel]; exact ⟨_, rfl, (hr.drop _).take _⟩⟩
        simp only [sliceV, h1 _ _ e1, hl, h2 _ _ e2, h3 _ _ e3]
        rw [if_pos hc]
      · cases h
    · cases h
  · simp only [VRel] at hx
    subst hx
    split at h
    · rename_i l hh m e1 e2 e3
      split at h
      · rename_i hc
        simp only [Option.some.injEq] at h; subst h
        refine ⟨.nils, ?_, by simp [VRel]⟩
        simp only [sliceV, h1 _ _ e1, h2 _ _ e2, h3 _ _ e3]
        rw [if_pos hc]
      · cases h
    · cases h
  · cases h
theorem sliceSV_rel {x x' v : V} {lo hi lo' hi' : Option V} (hx : VRel R x x')
    (h1 : ∀ d j, boundV d lo = some j → boundV d lo' = some j) (h2 : ∀ d j, boundV d hi = some j → boundV d hi' = some j)
    (h : sliceSV x lo hi = some v) : ∃ v', sliceSV x' lo' hi' = some v' ∧ VRel R v v' := by
  unfold sliceSV at h
  split at h
  · rw [VRel.str_iff] at hx
    subst hx
    split at h
    · rename_i l hh e1 e2
      split at h
      · rename_i hc
        simp only [Option.some.injEq] at h; subst h
        refine ⟨_, ?_, VRel.str_iff.2 rfl⟩
        simp only [sliceSV, h1 _ _ e1, h2 _ _ e2]
        rw [if_pos hc]
      · cases h
    · cases h
  · cases h
theorem nilCheckV_rel {x x' v : V} (hx : VRel R x x') (h : nilCheckV x = some v) : ∃ v', nilCheckV x' = some v' ∧ VRel R v v' := by
  unfold nilCheckV at h
  split at h <;> first | cases h | skip
  all_goals (have hx0 := hx; simp only [VRel] at hx; obtain ⟨i, rfl, _⟩ := hx; exact ⟨_, rfl, hx0⟩)
theorem binBV_rel {neg : Bool} {x y x' y' v : V} (hx : VRel R x x') (hy : VRel R y y') (h : binBV neg x y = some v) : ∃ v', binBV neg x' y' = some v' ∧ VRel R v v' := by
  have h0 := h
  unfold binBV at h
  split at h
  · rw [VRel.bool_iff] at hx hy
    subst hx hy
    refine ⟨v, h0, ?_⟩
    simp only [Option.some.injEq] at h; subst h; simp [VRel]
  · cases h
theorem minmaxV_rel {m : Bool} {x y x' y' v : V} (hx : VRel R x x') (hy : VRel R y y') (h : minmaxV m x y = some v) : ∃ v', minmaxV m x' y' = some v' ∧ VRel R v v' := by
  have h0 := h
  unfold minmaxV at h
  split at h
  · rw [VRel.int_iff] at hx hy
    subst hx hy
    refine ⟨v, h0, ?_⟩
    split at h
    · simp only [Option.some.injEq] at h; subst h; simp [VRel]
    · cases h
  · cases h
theorem eqCell_rel {x y x' y' : V} {b : Bool} (hx : VRel R x x') (hy : VRel R y y') (h : eqCell x y = some b) : x' = x ∧ y' = y := by
  unfold eqCell at h
  split at h <;> first | cases h | skip
  all_goals simp only [VRel] at hx hy
  all_goals exact ⟨hx, hy⟩
theorem eqCells_rel : ∀ {l m l' m' : List V} {b : Bool}, VRelL R l l' → VRelL R m m' → eqCells l m = some b → l' = l ∧ m' = m
  | [], [], _, _, _, h1, h2, _ => by rw [VRelL.nil_iff] at h1 h2; exact ⟨h1, h2⟩
  | v :: vs, u :: us, _, _, b, h1, h2, h => by
    obtain ⟨v', vs', rfl, g1, g2⟩ := VRelL.cons_iff.1 h1
    obtain ⟨u', us', rfl, g3, g4⟩ := VRelL.cons_iff.1 h2
    simp only [eqCells] at h
    split at h
    · rename_i e1 e2
      obtain ⟨rfl, rfl⟩ := eqCell_rel g1 g3 e1
      obtain ⟨rfl, rfl⟩ := eqCells_rel g2 g4 e2
      exact ⟨rfl, rfl⟩
    · cases h
  | [], _ :: _, _, _, _, _, _, h => by simp [eqCells] at h
  | _ :: _, [], _, _, _, _, _, h => by simp [eqCells] at h
theorem eqSV_rel {neg : Bool} {ks : List Nat} {x y x' y' v : V} (hx : VRel R x x') (hy : VRel R y y') (h : eqSV neg ks x y = some v) : ∃ v', eqSV neg ks x' y' = some v' ∧ VRel R v v' := by
  have h0 := h
  unfold eqSV at h
  split at h
  · obtain ⟨c, rfl, g1⟩ := VRel.agg_iff.1 hx
    obtain ⟨d, rfl, g2⟩ := VRel.agg_iff.1 hy
    split at h
    · split at h
      · rename_i e
        obtain ⟨rfl, rfl⟩ := eqCells_rel g1 g2 e
        refine ⟨v, h0, ?_⟩
        simp only [Option.some.injEq] at h; subst h; simp [VRel]
      · cases h
    · cases h
  · cases h
theorem bytesOf_rel : ∀ {l m : List V} {b : List UInt8}, VRelL R l m → bytesOf l = some b → m = l
  | [], _, _, h, _ => by rw [VRelL.nil_iff] at h; exact h
  | v :: vs, _, b, h, hb => by
    obtain ⟨u, us, rfl, g1, g2⟩ := VRelL.cons_iff.1 h
    simp only [bytesOf] at hb
    split at hb
    · rename_i e1 e2
      rw [bytesOf_rel g2 e2]
      cases v <;> simp [byteOf] at e1
      rw [VRel.int_iff] at g1
      rw [g1]
    · cases hb
theorem bytesV_rel (hm : Lv R σc σ) {x x' v : V} (hx : VRel R x x') (h : bytesV σc x = some v) : ∃ v', bytesV σ x' = some v' ∧ VRel R v v' := by
  unfold bytesV at h
  split at h
  · simp only [VRel] at hx; subst hx
    simp only [Option.some.injEq] at h; subst h
    exact ⟨_, rfl, by simp [VRel]⟩
  · simp only [VRel] at hx
    obtain ⟨a, rfl, ha⟩ := hx
    split at h
    · rename_i ob hob
      obtain ⟨rows', h1, h2⟩ := hm _ _ _ ha hob
      split at h
      · rename_i hc
        simp only [Option.map_eq_some_iff] at h
        obtain ⟨l, hl, rfl⟩ := h
        have e := bytesOf_rel ((h2.drop _).take _) hl
        refine ⟨_, ?_, VRel.str_iff.2 rfl⟩
        simp only [bytesV, h1, h2.length, e, hl, Option.map_some]
        rw [if_pos hc]
      · cases h
    · cases h
  · cases h
theorem extV_rel {i : Nat} {x x' v : V} (hx : VRel R x x') (h : extV i x = some v) : ∃ v', extV i x' = some v' ∧ VRel R v v' := by
  unfold extV at h
  split at h
  · simp only [VRel] at hx
    obtain ⟨c, rfl, hr⟩ := hx
    exact hr.get h
  · cases h
def PartsRel (R : Nat → Nat → Prop) : List (Nat × Nat × V) → List (Nat × Nat × V) → Prop
  | [], l => l = []
  | p :: ps, l => ∃ u us, l = (p.1, p.2.1, u) :: us ∧ VRel R p.2.2 u ∧ PartsRel R ps us
theorem buildV_rel : ∀ {ps ps' : List (Nat × Nat × V)} {z z' l : List V}, VRelL R z z' → PartsRel R ps ps' → buildV z ps = some l → ∃ l', buildV z' ps' = some l' ∧ VRelL R l l'
  | [], _, z, z', l, hz, hp, h => by
    simp only [PartsRel] at hp; subst hp
    simp only [buildV, Option.some.injEq] at h; subst h
    exact ⟨_, rfl, hz⟩
  | (off, sz, x) :: ps, _, z, z', l, hz, hp, h => by
    simp only [PartsRel] at hp
    obtain ⟨u, us, rfl, h1, h2⟩ := hp
    simp only [buildV] at h ⊢
    split at h
    · rename_i hc
      rw [if_pos ⟨by rw [h1.cells.length]; exact hc.1, by rw [h1.stays]; exact hc.2.1, by rw [hz.length]; exact hc.2.2⟩]
      refine buildV_rel ?_ h2 h
      unfold splice
      rw [h1.cells.length]
      exact ((hz.take _).append h1.cells).append (hz.drop _)
    · cases h
theorem bound_ev (hs : ∀ i, VRel R (s i) (s' i)) {lo : Option VX} (h : ∀ x ∈ lo.toList, okX x = true) (d j : Int) : boundV d (lo.map (·.ev s)) = some j → boundV d (lo.map (·.ev s')) = some j := by
  refine boundV_rel (R := R) ?_
  cases lo with
  | none => trivial
  | some x => exact ev_rel hs (h x (by simp))
theorem vpure_rel (hm : Lv R σc σ) (hs : ∀ i, VRel R (s i) (s' i)) {op : VOp} (hok : okOp op = true) {v : V} (hp : vpre s op) (h : vpure σc s op = some v) :
    vpre s' op ∧ ∃ v', vpure σ s' op = some v' ∧ VRel R v v' := by
  have hok' := hok
  simp only [okOp, Bool.and_eq_true] at hok
  have hx := List.all_eq_true.1 hok.1
  have E : ∀ x, x ∈ op.xs → VRel R (x.ev s) (x.ev s') := fun x h => ev_rel hs (hx x h)
  cases op <;> simp only [VOp.xs, List.mem_cons, List.not_mem_nil, or_false, forall_eq_or_imp, forall_eq, List.mem_append] at E <;> simp only [vpure, vpre, Option.some.injEq, reduceCtorEq, true_and] at h hp ⊢
  case mov => subst h; exact ⟨_, rfl, E⟩
  case pick c a b =>
    split at h
    · rename_i t ht
      have := E.1
      rw [ht, VRel.bool_iff] at this
      rw [this]
      simp only [Option.some.injEq] at h ⊢
      subst h
      refine ⟨_, rfl, ?_⟩
      cases t
      · exact E.2.2
      · exact E.2.1
    · cases h
  case bin op x y =>
    obtain ⟨e1, e2, e3⟩ := binV_rel E.1 E.2 h
    rw [e1, e2]
    exact ⟨hp, v, h, noid_refl v e3⟩
  case not x =>
    split at h
    · rename_i b hb
      rw [hb, VRel.bool_iff] at E
      rw [E]
      simp only [Option.some.injEq] at h ⊢; subst h
      exact ⟨_, rfl, by simp [VRel]⟩
    · cases h
  case neg x =>
    split at h
    · rename_i k b hb
      rw [hb] at hp
      rw [hb, VRel.int_iff] at E
      rw [E]
      simp only [Option.some.injEq] at h ⊢; subst h
      exact ⟨hp, _, rfl, by simp [VRel]⟩
    · cases h
  case len => exact lenV_rel E h
  case cap =>
    unfold capV at h
    split at h
    · rename_i hn
      rw [hn] at E
      simp only [VRel] at E
      rw [E]
      simp only [Option.some.injEq] at h
      subst h
      exact ⟨_, rfl, by simp [VRel]⟩
    · cases h
  case fld => exact fldV_rel E h
  case fldA => exact fldAV_rel E h
  case idxA => exact idxAV_rel hm E.1 E.2 h
  case idxAA => exact idxAAV_rel E.1 E.2 h
  case idxV => exact idxVV_rel E.1 E.2 h
  case idxS => exact idxSV_rel E.1 E.2 h
  case load => exact loadV_rel hm E h
  case slice esz x lo hi mx =>
    have hx' := hx
    simp only [VOp.xs, List.mem_cons, List.mem_append] at hx'
    exact sliceV_rel hm E.1 (bound_ev hs fun y hy => hx' y (.inr (.inl (.inl hy)))) (bound_ev hs fun y hy => hx' y (.inr (.inl (.inr hy)))) (bound_ev hs fun y hy => hx' y (.inr (.inr hy))) h
  case sliceS x lo hi =>
    have hx' := hx
    simp only [VOp.xs, List.mem_cons, List.mem_append] at hx'
    exact sliceSV_rel E.1 (bound_ev hs fun y hy => hx' y (.inr (.inl hy))) (bound_ev hs fun y hy => hx' y (.inr (.inr hy))) h
  case ext => exact extV_rel E h
  case mkfn f xs =>
    subst h
    exact ⟨_, rfl, by simp only [VRel]; exact ⟨_, rfl, evs_rel hs hok.1⟩⟩
  case convI k x =>
    split at h
    · rename_i k' b hb
      rw [hb] at hp
      rw [hb, VRel.int_iff] at E
      rw [E]
      simp only [Option.some.injEq] at h ⊢; subst h
      exact ⟨hp, _, rfl, by simp [VRel]⟩
    · cases h
  case nilCheck => exact nilCheckV_rel E h
  case binB => exact binBV_rel E.1 E.2 h
  case eqS => exact eqSV_rel E.1 E.2 h
  case minmax => exact minmaxV_rel E.1 E.2 h
  case bstr => exact bytesV_rel hm E h
  case build zero parts =>
    simp only [Option.map_eq_some_iff] at h
    obtain ⟨l, hl, rfl⟩ := h
    have hpr : ∀ ps : List (Nat × Nat × VX), (∀ p ∈ ps, okX p.2.2 = true) → PartsRel R (ps.map fun p => (p.1, p.2.1, p.2.2.ev s)) (ps.map fun p => (p.1, p.2.1, p.2.2.ev s')) := by
      intro ps
      induction ps with
      | nil => intro _; simp [PartsRel]
      | cons p ps ih =>
        intro hps
        simp only [List.map_cons, PartsRel]
        exact ⟨_, _, rfl, ev_rel hs (hps p (by simp)), ih fun q hq => hps q (by simp [hq])⟩
    obtain ⟨l', h1, h2⟩ := buildV_rel (noidL_refl zero hok.2) (hpr parts fun p hp => hx _ (by simp only [VOp.xs, List.mem_map]; exact ⟨p, hp, rfl⟩)) hl
    exact ⟨.agg l', by rw [h1]; rfl, VRel.agg h2⟩
end
end Go.Vc
namespace Go.Vc
variable {R : Nat → Nat → Prop} {K : Store} {fl : Nat} {P : Program} {n : Nat}
structure SRel (K : Store) (fl : Nat) (R : Nat → Nat → Prop) (cs : CS) (st : St) : Prop where
  slot : ∀ i, VRel R (cs.sf i) (st.s i)
  mem : MRel K fl R (stF cs.σ) cs.nxt st.σ
theorem slots_put {s s' : Nat → V} (h : ∀ i, VRel R (s i) (s' i)) {d : Option Nat} {v u : V} (hv : VRel R v u) : ∀ i, VRel R (putO s d v i) (putO s' d u i) := by
  intro i
  cases d with
  | none => exact h i
  | some d =>
    show VRel R (if i = d then v else s i) (if i = d then u else s' i)
    split
    · exact hv
    · exact h i
theorem SRel.put {cs : CS} {st : St} (h : SRel K fl R cs st) {d : Option Nat} {v u : V} (hv : VRel R v u) : SRel K fl R (cs.put d v) ⟨putO st.s d u, st.σ⟩ := by
  refine ⟨?_, ?_⟩
  · rw [sf_put]; exact slots_put h.slot hv
  · rw [(put_σ cs d v).1, (put_σ cs d v).2]; exact h.mem
theorem VRel.nilt : VRel R (.tup []) (.tup []) := by simp [VRel, VRelL]
theorem eqQ_eq (a b : Int) : eqQ a b = decide (a = b) := by
  cases a <;> cases b <;> rw [Bool.eq_iff_iff] <;> simp [eqQ] <;> first | rfl | omega
theorem leQ_eq (a b : Int) : leQ a b = decide (a ≤ b) := by
  cases a <;> cases b <;> rw [Bool.eq_iff_iff] <;> simp only [leQ, Nat.ble_eq, decide_eq_true_eq, Bool.false_eq_true, false_iff, true_iff, Int.ofNat_eq_natCast] <;> omega
theorem addQ_eq (a b : Int) : addQ a b = a + b := by cases a <;> cases b <;> rfl
theorem subQ_eq (a b : Int) : subQ a b = a - b := by
  cases a <;> cases b <;> simp only [subQ]
  rename_i m k
  cases h : Nat.ble k m
  · have : ¬ k ≤ m := by rw [← Nat.ble_eq]; simp [h]
    simp only [Nat.sub_eq, Int.ofNat_eq_natCast]
    omega
  · have : k ≤ m := Nat.le_of_ble_eq_true h
    simp only [Nat.sub_eq, Int.ofNat_eq_natCast]
    omega
theorem in64_eq {a : Int} (h : in64 a = true) : inR .i64 a := by
  cases a <;> simp only [in64, Nat.ble_eq] at h
  · rw [Int.ofNat_eq_natCast]; exact inR_i64 (by omega) (by omega)
  · exact inR_i64 (by omega) (by omega)
theorem inRB_eq {k : IntKind} {a : Int} (h : inRB k a = true) : inR k a := by
  unfold inRB at h
  split at h
  · exact in64_eq h
  · simpa [inR] using h
theorem bcase {α : Type} {b : Bool} {x y : α} : @Bool.casesOn (fun _ => α) b x y = if b then y else x := by cases b <;> rfl
theorem brec {α : Type} {b : Bool} {x y : α} : @Bool.rec (fun _ => α) x y b = if b then y else x := by cases b <;> rfl
theorem gI_eq {k : IntKind} {a : Int} {v : V} (h : gI k a = some v) : v = .int k a ∧ inR k a := by
  unfold gI at h
  rw [bcase] at h
  split at h
  · rename_i hi
    simp only [Option.some.injEq] at h
    exact ⟨h.symm, inRB_eq hi⟩
  · cases h
theorem intBinQ_eq {op : BinOp} {k : IntKind} {a b : Int} {v : V} (h : (intBinQ op).f k a b = some v) : intPre op k a b ∧ intBin op k a b = some v := by
  unfold intBinQ at h
  split at h <;> simp only [] at h
  · obtain ⟨rfl, h2⟩ := gI_eq h; rw [addQ_eq] at *; exact ⟨h2, rfl⟩
  · obtain ⟨rfl, h2⟩ := gI_eq h; rw [subQ_eq] at *; exact ⟨h2, rfl⟩
  · obtain ⟨rfl, h2⟩ := gI_eq h; exact ⟨h2, rfl⟩
  · split at h
    · cases h
    · rename_i hb
      obtain ⟨rfl, h2⟩ := gI_eq h; exact ⟨h2, by simp [intBin, hb]⟩
  · split at h
    · cases h
    · rename_i hb
      simp only [Option.some.injEq] at h; subst h
      exact ⟨trivial, by simp [intBin, hb]⟩
  all_goals first
    | (simp only [Option.some.injEq] at h; subst h; refine ⟨trivial, ?_⟩; simp only [eqQ_eq, leQ_eq, intBin, Option.some.injEq, V.bool.injEq]; try (rw [Bool.eq_iff_iff]; simp))
    | cases h
theorem strBinQ_eq {op : BinOp} {a b : List UInt8} {v : V} (h : strBinQ op a b = some v) : strPre op a b ∧ strBin op a b = some v := by
  unfold strBinQ at h
  split at h
  · rw [bcase] at h
    split at h
    · rename_i hb
      simp only [Option.some.injEq] at h; subst h
      exact ⟨Nat.le_of_ble_eq_true hb, rfl⟩
    · cases h
  · exact ⟨trivial, h⟩
  · exact ⟨trivial, h⟩
  · cases h
theorem sameK_eq {k k' : IntKind} (h : sameK k k' = true) : k = k' := by
  unfold sameK at h
  rw [bcase] at h
  cases k <;> cases k' <;> simp_all [is64, eqK]
theorem binQ_eq {op : BinOp} {x y v : V} (h : binQ op (intBinQ op).f y x = some v) : binPre op x y ∧ binV op x y = some v := by
  unfold binQ at h
  split at h
  · unfold binI at h
    split at h
    · rw [bcase] at h
      split at h
      · rename_i hk
        have := sameK_eq hk
        subst this
        obtain ⟨h1, h2⟩ := intBinQ_eq h
        exact ⟨h1, by simp [binV, h2]⟩
      · cases h
    · cases h
  · unfold binS at h
    split at h
    · exact strBinQ_eq h
    · cases h
  · cases h
theorem idxQ_eq {σ : Tr (Option Ob)} {esz : Nat} {x i v : V} (h : idxQ σ esz x i = some v) : idxAV (stF σ) esz x i = some v := by
  unfold idxQ at h
  split at h
  · split at h
    · rename_i m hm
      have hj := hm
      unfold natQ at hm
      split at hm
      · simp only [Option.some.injEq] at hm; subst hm
        split at h
        · rename_i ob hob
          rw [bcase] at h
          split at h
          · rename_i hc
            simp only [Bool.and_eq_true, Nat.beq_eq, Nat.blt_eq] at hc
            have e : stF σ _ = some ob := hob
            simp only [idxAV, e]
            rw [if_pos ⟨hc.1, by simp, by simpa using hc.2⟩]
            exact h
          · cases h
        · cases h
      · cases hm
    · cases h
  · split at h
    · rename_i m hm
      unfold natQ at hm
      split at hm
      · simp only [Option.some.injEq] at hm; subst hm
        rw [bcase] at h
        split at h
        · rename_i hc
          rw [Nat.beq_eq] at hc
          simp only [idxAV]
          rw [if_pos ⟨hc, by simp⟩]
          exact h
        · cases h
      · cases hm
    · cases h
  · cases h
theorem idxSQ_eq {x i v : V} (h : idxSQ x i = some v) : idxSV x i = some v := by
  unfold idxSQ at h
  split at h
  · split at h
    · rename_i m hm
      unfold natQ at hm
      split at hm
      · simp only [Option.some.injEq] at hm; subst hm
        simp only [idxSV]
        rw [if_pos (by simp)]
        exact h
      · cases hm
    · cases h
  · cases h
theorem loadQ_eq {σ : Tr (Option Ob)} {agg : Bool} {sz : Nat} {x v : V} (h : loadQ σ agg sz x = some v) : loadV (stF σ) agg sz x = some v := by
  unfold loadQ at h
  split at h
  · split at h
    · rename_i ob hob
      have e : stF σ _ = some ob := hob
      split at h
      · rename_i r hr
        simp only [loadV, e, hr]
        split at h
        · rw [bcase, bcase] at h
          simp only [if_true]
          split at h
          · rename_i hc
            simp only [Bool.and_eq_true, Nat.beq_eq] at hc
            rw [if_pos hc]; exact h
          · rename_i hc
            split at h
            · rename_i hc'
              rw [if_neg (by simpa using hc), if_pos (show _ + sz ≤ _ from Nat.le_of_ble_eq_true hc')]; exact h
            · cases h
        · simpa using h
      · cases h
    · cases h
  · exact h
theorem pure_case {draw : Bool} {call : CallT} {dst : Option Nat} {op : VOp} {cs cs' : CS} {st : St} (hk : okind op = 0) (hok : okOp op = true) (h : SRel K fl R cs st)
    (hr : (compO draw dst op).f call fl cs = some cs') : ∃ v', vpre st.s op ∧ vpure st.σ st.s op = some v' ∧ SRel K fl R cs' ⟨putO st.s dst v', st.σ⟩ := by
  have key : ∃ v, vpre cs.sf op ∧ vpure (stF cs.σ) cs.sf op = some v ∧ cs' = cs.put dst v := by
    have hp : ∀ (g : CS → Option V), (pureB dst g).f call fl cs = some cs' → ∃ v, g cs = some v ∧ cs' = cs.put dst v := by
      intro g hg
      simp only [pureB] at hg
      split at hg
      · rename_i v hv
        simp only [Option.some.injEq] at hg
        exact ⟨v, hv, hg.symm⟩
      · cases hg
    cases op <;> simp only [okind, reduceCtorEq, Nat.reduceEqDiff] at hk <;> simp only [compO] at hr
    case mov x =>
      simp only [movB, Option.some.injEq] at hr
      exact ⟨_, trivial, rfl, hr.symm⟩
    case bin op x y =>
      have hr' : (pureB dst fun cs => binQ op (intBinQ op).f (y.ev cs.sf) (x.ev cs.sf)).f call fl cs = some cs' := hr
      obtain ⟨v, h1, h2⟩ := hp _ hr'
      obtain ⟨h3, h4⟩ := binQ_eq h1
      exact ⟨v, h3, h4, h2⟩
    case pick c a b =>
      obtain ⟨v, h1, h2⟩ := hp _ hr
      refine ⟨v, trivial, ?_, h2⟩
      simp only [vpure]
      unfold pickQ at h1
      split at h1
      · rename_i t ht
        rw [bcase] at h1
        rw [ht]
        exact h1
      · cases h1
    case not x =>
      obtain ⟨v, h1, h2⟩ := hp _ hr
      refine ⟨v, trivial, ?_, h2⟩
      simp only [vpure]
      unfold notQ at h1
      split at h1
      · rename_i t ht; rw [ht]; exact h1
      · cases h1
    case neg x =>
      obtain ⟨v, h1, h2⟩ := hp _ hr
      unfold negQ at h1
      split at h1
      · rename_i k t ht
        obtain ⟨h3, h4⟩ := gI_eq h1
        exact ⟨v, by simp only [vpre, ht]; exact h4, by simp only [vpure, ht, h3], h2⟩
      · cases h1
    case convI k x =>
      obtain ⟨v, h1, h2⟩ := hp _ hr
      unfold convQ at h1
      split at h1
      · rename_i k t ht
        obtain ⟨h3, h4⟩ := gI_eq h1
        exact ⟨v, by simp only [vpre, ht]; exact h4, by simp only [vpure, ht, h3], h2⟩
      · cases h1
    case idxA => obtain ⟨v, h1, h2⟩ := hp _ hr; exact ⟨v, trivial, idxQ_eq h1, h2⟩
    case idxS => obtain ⟨v, h1, h2⟩ := hp _ hr; exact ⟨v, trivial, idxSQ_eq h1, h2⟩
    case load => obtain ⟨v, h1, h2⟩ := hp _ hr; exact ⟨v, trivial, loadQ_eq h1, h2⟩
    all_goals (obtain ⟨v, h1, h2⟩ := hp _ hr; exact ⟨v, trivial, h1, h2⟩)
  obtain ⟨v, h1, h2, rfl⟩ := key
  obtain ⟨h3, v', h4, h5⟩ := vpure_rel h.mem.live h.slot hok h1 h2
  exact ⟨v', h3, h4, h.put h5⟩
theorem srcRows_rel {σc σ : Store} (hm : Lv R σc σ) {sz : Nat} {x x' : V} {l : List V} (hx : VRel R x x') (h : srcRows σc sz x = some l) : ∃ l', srcRows σ sz x' = some l' ∧ VRelL R l l' := by
  unfold srcRows at h
  split at h
  · simp only [VRel] at hx
    obtain ⟨a, rfl, ha⟩ := hx
    split at h
    · rename_i ob hob
      obtain ⟨rows', h1, h2⟩ := hm _ _ _ ha hob
      split at h
      · rename_i hc
        simp only [Option.some.injEq] at h; subst h
        refine ⟨_, ?_, (h2.drop _).take _⟩
        simp only [srcRows, h1, h2.length]
        rw [if_pos hc]
      · cases h
    · cases h
  · simp only [VRel] at hx
    obtain ⟨rows', rfl, hr⟩ := hx
    split at h
    · rename_i hc
      simp only [Option.some.injEq] at h; subst h
      exact ⟨rows', by simp [srcRows, hc], hr⟩
    · cases h
  · simp only [VRel] at hx; subst hx
    simp only [Option.some.injEq] at h; subst h
    exact ⟨[], rfl, by simp [VRelL]⟩
  · cases h
theorem dstRows_rel {σc σ : Store} (hm : Lv R σc σ) {e sz : Nat} {x x' : V} {l : List V} {d : Option Nat} (hx : VRel R x x') (h : dstRows σc e sz x = some (l, d)) :
    ∃ l' d', dstRows σ e sz x' = some (l', d') ∧ VRelL R l l' ∧ (d = none ∧ d' = none ∨ ∃ c a o, d = some c ∧ d' = some a ∧ R c a ∧ σc c = some o) := by
  unfold dstRows at h
  split at h
  · simp only [VRel] at hx
    obtain ⟨a, rfl, ha⟩ := hx
    split at h
    · rename_i ob hob
      obtain ⟨rows', h1, h2⟩ := hm _ _ _ ha hob
      split at h
      · rename_i hc
        simp only [Option.some.injEq, Prod.mk.injEq] at h
        obtain ⟨rfl, rfl⟩ := h
        refine ⟨_, some a, ?_, h2.take _, .inr ⟨_, a, ob, rfl, rfl, ha, hob⟩⟩
        simp only [dstRows, h1, h2.length]
        rw [if_pos hc]
      · cases h
    · cases h
  · simp only [VRel] at hx; subst hx
    simp only [Option.some.injEq, Prod.mk.injEq] at h
    obtain ⟨rfl, rfl⟩ := h
    exact ⟨[], none, rfl, by simp [VRelL], .inl ⟨rfl, rfl⟩⟩
  · cases h
/-- a new row, in both -/
theorem addRow_rel {dst : Option Nat} {cs cs' : CS} {st : St} (h : SRel K fl R cs st) {m : Mk} {rows' : List V} {d' : Option Nat} (hrows : VRelL R m.ob.rows rows')
    (hd : m.gone = none ∧ d' = none ∨ ∃ c a o, m.gone = some c ∧ d' = some a ∧ R c a ∧ stF cs.σ c = some o) (hr : addRow fl dst cs m = some cs') {id : Nat} (hid : st.σ id = none) :
    ∃ R', (∀ a b, R a b → R' a b) ∧ SRel K fl R' cs' ⟨putO st.s dst (if m.var then .ptr id 0 0 else .own id 0 m.len), upd (delO st.σ d') id ⟨m.ob.elem, m.ob.sz, rows'⟩⟩ := by
  refine ⟨ext R cs.nxt id, ext_le _ _, ?_⟩
  have hval : VRel (ext R cs.nxt id) (@Bool.casesOn (fun _ => V) m.var (.own cs.nxt 0 m.len) (.ptr cs.nxt 0 0)) (if m.var then .ptr id 0 0 else .own id 0 m.len) := by
    cases m.var
    · simp only [VRel, Bool.false_eq_true, if_false]; exact ⟨id, rfl, .inr ⟨rfl, rfl⟩⟩
    · simp only [VRel, if_true]; exact ⟨id, rfl, .inr ⟨rfl, rfl⟩⟩
  have hslot : ∀ i, VRel (ext R cs.nxt id) (cs.sf i) (st.s i) := fun i => VRel.mono (ext_le _ _) _ _ (h.slot i)
  unfold addRow at hr
  rcases hd with ⟨e1, rfl⟩ | ⟨c, a, o, e1, rfl, hR, ho⟩
  · rw [e1] at hr
    simp only [Option.some.injEq] at hr
    subst hr
    have hm := h.mem.new hid hrows
    have hS : SRel K fl (ext R cs.nxt id) ⟨cs.s, setP none (some m.ob) cs.nxt cs.σ, Nat.succ cs.nxt⟩ ⟨st.s, upd st.σ id ⟨m.ob.elem, m.ob.sz, rows'⟩⟩ :=
      ⟨hslot, by simp only [stF_set]; exact hm⟩
    exact hS.put hval
  · rw [e1] at hr
    simp only [bcase] at hr
    split at hr
    · rename_i hf
      simp only [Option.some.injEq] at hr
      subst hr
      have h1 := h.mem.rem hR ho (Nat.le_of_ble_eq_true hf)
      have hid' : del st.σ a id = none := by
        by_cases e : id = a
        · simp [del, e]
        · rw [del_ne e]; exact hid
      have hm := h1.new hid' hrows
      have hS : SRel K fl (ext R cs.nxt id) ⟨cs.s, setP none (some m.ob) cs.nxt (setP none none c cs.σ), Nat.succ cs.nxt⟩ ⟨st.s, upd (del st.σ a) id ⟨m.ob.elem, m.ob.sz, rows'⟩⟩ :=
        ⟨hslot, by simp only [stF_set, stF_del]; exact hm⟩
      rw [bcase] at hval
      exact hS.put hval
    · cases hr
theorem row_case {draw : Bool} {call : CallT} {dst : Option Nat} {op : VOp} {cs cs' : CS} {st : St} (hk : okind op = 3) (hok : okOp op = true) (h : SRel K fl R cs st)
    (hr : (compO draw dst op).f call fl cs = some cs') : ∃ g', eff st.s st.σ op = some g' ∧ ∀ id, st.σ id = none → ∃ R', (∀ a b, R a b → R' a b) ∧
      SRel K fl R' cs' ⟨putO st.s dst (g' id).1, (g' id).2⟩ := by
  have hp : ∀ (g : CS → Option Mk), (rowB dst g).f call fl cs = some cs' → ∃ m, g cs = some m ∧ addRow fl dst cs m = some cs' := by
    intro g hg
    simp only [rowB] at hg
    split at hg
    · rename_i v hv
      exact ⟨v, hv, hg⟩
    · cases hg
  simp only [okOp, Bool.and_eq_true] at hok
  have hx := List.all_eq_true.1 hok.1
  cases op <;> simp only [okind, reduceCtorEq, Nat.reduceEqDiff] at hk <;> simp only [compO] at hr
  case alloc e sz z =>
    obtain ⟨m, h1, h2⟩ := hp _ hr
    simp only [Option.some.injEq] at h1; subst h1
    refine ⟨_, rfl, fun id hid => ?_⟩
    have := addRow_rel (d' := none) h (VRelL.one (noid_refl (R := R) z hok.2)) (.inl ⟨rfl, rfl⟩) h2 hid
    simpa [delO] using this
  case box e sz x =>
    obtain ⟨m, h1, h2⟩ := hp _ hr
    have hv := ev_rel h.slot (hx x (by simp [VOp.xs]))
    unfold boxQ at h1
    rw [bcase] at h1
    split at h1
    · rename_i hc
      simp only [Bool.and_eq_true, Nat.beq_eq] at hc
      simp only [Option.some.injEq] at h1; subst h1
      refine ⟨fun id => (.ptr id 0 0, upd st.σ id ⟨e, sz, [x.ev st.s]⟩), ?_, fun id hid => ?_⟩
      · simp only [eff]
        rw [if_pos ⟨by rw [hv.cells.length]; exact hc.1, by rw [hv.stays]; exact hc.2⟩]
      · have := addRow_rel (d' := none) h (VRelL.one hv) (.inl ⟨rfl, rfl⟩) h2 hid
        simpa [delO] using this
    · cases h1
  case appz => simp [pureB, vpure] at hr
  case mk e sz bytes z x =>
    obtain ⟨m, h1, h2⟩ := hp _ hr
    have hv := ev_rel h.slot (hx x (by simp [VOp.xs]))
    unfold mkQ at h1
    split at h1
    · rename_i kk mm hxe
      rw [hxe] at hv
      simp only [VRel] at hv
      split at h1
      · split at h1
        · rename_i j hj
          rw [bcase] at h1
          split at h1
          · rename_i hc
            simp only [Option.some.injEq] at h1; subst h1
            have hmj : mm = (j : Int) := by
              cases mm <;> simp only [natQ, Option.some.injEq, reduceCtorEq] at hj
              subst hj; rfl
            subst hmj
            refine ⟨fun id => (.own id 0 j, upd st.σ id ⟨e, sz, List.replicate j z⟩), ?_, fun id hid => ?_⟩
            · simp only [eff]
              rw [hv]
              have hc' : j * (bytes + 1) ≤ 140737488355328 := Nat.le_of_ble_eq_true hc
              simp only [Int.toNat_natCast]
              rw [if_pos ⟨by omega, hc'⟩]
            · have := addRow_rel (d' := none) h (VRelL.replicate (noid_refl (R := R) z hok.2) j) (.inl ⟨rfl, rfl⟩) h2 hid
              simpa [delO] using this
          · cases h1
        · cases h1
      · cases h1
    · cases h1
  case bslice e sz xs =>
    obtain ⟨m, h1, h2⟩ := hp _ hr
    have hv := evs_rel h.slot hok.1
    simp only [VOp.xs] at hv
    unfold bsliceQ at h1
    rw [bcase] at h1
    split at h1
    · rename_i hc
      simp only [Option.some.injEq] at h1; subst h1
      refine ⟨fun id => (.own id 0 xs.length, upd st.σ id ⟨e, sz, xs.map (·.ev st.s)⟩), ?_, fun id hid => ?_⟩
      · simp only [eff]
        rw [if_pos]
        rw [List.all_eq_true]
        intro y hy
        rw [List.mem_map] at hy
        obtain ⟨x, hxx, rfl⟩ := hy
        have hvx := ev_rel h.slot (hx x (by simp [VOp.xs, hxx]))
        have := List.all_eq_true.1 hc (x.ev cs.sf) (List.mem_map.2 ⟨x, hxx, rfl⟩)
        simp only [Bool.and_eq_true, Nat.beq_eq] at this
        simp [hvx.cells.length, hvx.stays, this]
      · have := addRow_rel (d' := none) h hv (.inl ⟨rfl, rfl⟩) h2 hid
        simpa [delO] using this
    · cases h1
  case append e sz bytes xa xb =>
    obtain ⟨m, h1, h2⟩ := hp _ hr
    have ha := ev_rel h.slot (hx xa (by simp [VOp.xs]))
    have hb := ev_rel h.slot (hx xb (by simp [VOp.xs]))
    unfold appendQ at h1
    split at h1
    · rename_i base idA src e1 e2
      obtain ⟨base', d', g1, g2, g3⟩ := dstRows_rel h.mem.live ha e1
      obtain ⟨src', g4, g5⟩ := srcRows_rel h.mem.live hb e2
      rw [bcase] at h1
      split at h1
      · rename_i hc
        simp only [Option.some.injEq] at h1; subst h1
        refine ⟨fun id => (.own id 0 (base'.length + src'.length), upd (delO st.σ d') id ⟨e, sz, base' ++ src'⟩), ?_, fun id hid => ?_⟩
        · simp only [eff, g1, g4]
          rw [if_pos (by rw [g2.length, g5.length]; exact Nat.le_of_ble_eq_true hc)]
        · have := addRow_rel h (g2.append g5) g3 h2 hid
          simpa [g2.length, g5.length] using this
      · cases h1
    · cases h1
theorem setRowV_rel {r r' x x' q : V} {k sz : Nat} (hr : VRel R r r') (hx : VRel R x x') (h : setRowV r k sz x = some q) : ∃ q', setRowV r' k sz x' = some q' ∧ VRel R q q' := by
  unfold setRowV at h
  split at h
  · rename_i hc
    have hc' : x'.cells.length = sz ∧ x'.stays = true := ⟨by rw [hx.cells.length]; exact hc.1, by rw [hx.stays]; exact hc.2⟩
    split at h
    · rename_i hd
      simp only [Option.some.injEq] at h; subst h
      refine ⟨x', ?_, hx⟩
      unfold setRowV
      rw [if_pos hc', if_pos ⟨hd.1, by rw [hr.cells.length]; exact hd.2⟩]
    · rename_i hd
      split at h
      · rename_i he
        simp only [Option.some.injEq] at h; subst h
        refine ⟨_, ?_, VRel.agg (((hr.cells.take k).append hx.cells).append (hr.cells.drop (k + sz)))⟩
        unfold setRowV
        rw [if_pos hc', if_neg (by rw [hr.cells.length]; exact hd), if_pos (by rw [hr.cells.length]; exact he)]
      · cases h
  · cases h
theorem store_case {dst : Option Nat} {sz : Nat} {xa xv : VX} {call : CallT} {cs cs' : CS} {st : St} (hok : okOp (.store sz xa xv) = true) (h : SRel K fl R cs st)
    (hr : (storeB dst sz xa xv).f call fl cs = some cs') : ∃ σ', storeS st.σ sz (xa.ev st.s) (xv.ev st.s) = some σ' ∧ SRel K fl R cs' ⟨putO st.s dst (.tup []), σ'⟩ := by
  simp only [okOp, VOp.xs, List.all_cons, List.all_nil, Bool.and_true, Bool.and_eq_true] at hok
  have ha := ev_rel h.slot hok.1
  have hv := ev_rel h.slot hok.2
  simp only [storeB, storeIn] at hr
  split at hr
  · rename_i id i0 c hptr
    rw [hptr] at ha
    simp only [VRel] at ha
    obtain ⟨a, ha1, ha2⟩ := ha
    rw [brec] at hr
    split at hr
    · rename_i hf
      split at hr
      · rename_i ob hob
        have hob' : stF cs.σ id = some ob := hob
        obtain ⟨rows', h1, h2⟩ := h.mem.live _ _ _ ha2 hob'
        split at hr
        · rename_i r hrr
          obtain ⟨r', h3, h4⟩ := h2.get hrr
          split at hr
          · rename_i q hq
            obtain ⟨q', h5, h6⟩ := setRowV_rel h4 hv hq
            simp only [Option.some.injEq] at hr
            subst hr
            refine ⟨upd st.σ a ⟨ob.elem, ob.sz, rows'.set i0 q'⟩, ?_, ?_⟩
            · simp only [storeS, ha1, h1, h3, h5]
            · have hm := h.mem.write ha2 hob' (Nat.le_of_ble_eq_true hf) (h2.set i0 h6)
              have hS : SRel K fl R ⟨cs.s, setP none (some ⟨ob.elem, ob.sz, ob.rows.set i0 q⟩) id cs.σ, cs.nxt⟩ ⟨st.s, upd st.σ a ⟨ob.elem, ob.sz, rows'.set i0 q'⟩⟩ :=
                ⟨h.slot, by simp only [stF_set]; exact hm⟩
              exact hS.put VRel.nilt
          · cases hr
        · cases hr
      · cases hr
    · cases hr
  · cases hr
end Go.Vc
namespace Go.Vc
variable {P : Program} {n : Nat}
def Le (R R' : Nat → Nat → Prop) : Prop := ∀ a b, R a b → R' a b
theorem Le.refl (R : Nat → Nat → Prop) : Le R R := fun _ _ h => h
theorem Le.trans {R R' R'' : Nat → Nat → Prop} (h : Le R R') (h' : Le R' R'') : Le R R'' := fun a b g => h' a b (h a b g)
/-- the callee's answers are right -/
def CallOk (P : Program) (call : CallT) : Prop := ∀ g args σc nxt fl r, call g args σc nxt fl = some r → ∀ (K : Store) (R : Nat → Nat → Prop) (σ : Store) (args' : List V),
  MRel K fl R (stF σc) nxt σ → VRelL R args args' → Contract P g args' σ fun v σ' => ∃ R', Le R R' ∧ VRel R' r.v v ∧ MRel K fl R' (stF r.σ) r.nxt σ'
theorem Contract.drop {f : FuncId} {args : List V} {σ : Store} {Post Post' : V → Store → Prop} (h : Contract P f args σ Post)
    (hp : ∀ r σ', Post r σ' → ∃ σ0, SubStore σ0 σ' ∧ Post' r σ0) : Contract P f args σ Post' := by
  refine ⟨h.1, fun μ w vals hs hr => (h.2 μ w vals hs hr).mono ?_⟩
  rintro e w' ⟨r, σ', μ', val, h1, h2, h3, h4, h5⟩
  obtain ⟨σ0, h6, h7⟩ := hp r σ' h2
  exact ⟨r, σ0, μ', val, h1, h7, h3, h4.drop h6, Wk.refl h6 r μ' _ _ _ val h4 h5⟩
section
variable {call : CallT} {K : Store} {fl : Nat} {R : Nat → Nat → Prop} {cs cs' : CS} {st : St} {Q : St → Prop} {k : List It}
theorem compI_split {draw : Bool} {i : VIns} (hok : okIns i = true) (h : SRel K fl R cs st) (hr : (compI draw i).f call fl cs = some cs') :
    (wantV st.s i.g = some true ∧ (compO draw i.dst i.op).f call fl cs = some cs') ∨ (wantV st.s i.g = some false ∧ cs' = cs.put i.dst (.tup [])) := by
  simp only [okIns, Bool.and_eq_true] at hok
  unfold compI at hr
  split at hr
  · rename_i hg
    exact .inl ⟨by simp [hg, wantV], hr⟩
  · rename_i x b hg
    have hx := hok.2
    simp only [hg] at hx
    have hv := ev_rel h.slot hx
    simp only [guardB] at hr
    split at hr
    · rename_i c hc
      rw [hc, VRel.bool_iff] at hv
      rw [brec] at hr
      split at hr
      · rename_i hcb
        simp only [Option.some.injEq] at hr
        refine .inr ⟨?_, hr.symm⟩
        simp only [hg, wantV, hv]
        cases c <;> cases b <;> simp_all
      · rename_i hcb
        refine .inl ⟨?_, hr⟩
        simp only [hg, wantV, hv]
        cases c <;> cases b <;> simp_all
    · rename_i hc
      rw [hc] at hv
      simp only [VRel, VRelL] at hv
      obtain ⟨c', hv, rfl⟩ := hv
      simp only [Option.some.injEq] at hr
      exact .inr ⟨by simp only [hg, wantV, hv], hr.symm⟩
    · rename_i hc
      rw [hc, VRel.int_iff] at hv
      simp only [Option.some.injEq] at hr
      exact .inr ⟨by simp only [hg, wantV, hv], hr.symm⟩
    · cases hr
theorem bad_not {draw : Bool} {dst : Option Nat} {op : VOp} (h : op = .bad) (hr : (compO draw dst op).f call fl cs = some cs') : False := by
  subst h
  simp [compO, pureB, vpure] at hr
theorem okind_cases (op : VOp) : okind op = 0 ∨ (∃ fx xs, op = .call fx xs) ∨ (∃ sz a x, op = .store sz a x) ∨ okind op = 3 ∨ (∃ sz z x, op = .clear sz z x) ∨ op = .bad := by
  cases op <;> simp [okind]
theorem ins_run (hc : CallOk P call) {i : VIns} {l : List VIns} (hok : okIns i = true) (h : SRel K fl R cs st) (hr : (compI false i).f call fl cs = some cs')
    (hk : ∀ R' st', Le R R' → SRel K fl R' cs' st' → Runs P n (.ops l :: k) st' Q) : Runs P n (.ops (i :: l) :: k) st Q := by
  have hop : okOp i.op = true := by simp only [okIns, Bool.and_eq_true] at hok; exact hok.1
  rcases compI_split hok h hr with ⟨hw, hr⟩ | ⟨hw, rfl⟩
  · rcases okind_cases i.op with h0 | ⟨fx, xs, h0⟩ | ⟨sz, a, x, h0⟩ | h0 | ⟨sz, z, x, h0⟩ | h0
    · obtain ⟨v', h1, h2, h3⟩ := pure_case h0 hop h hr
      exact Runs.pure hw h1 h2 (hk R _ (Le.refl R) h3)
    · rw [h0] at hr hop
      simp only [compO, callB] at hr
      simp only [okOp, VOp.xs, List.all_cons, Bool.and_eq_true] at hop
      split at hr
      · rename_i f caps hf
        have hfx := ev_rel h.slot hop.1.1
        rw [hf] at hfx
        simp only [VRel] at hfx
        obtain ⟨caps', hf', hcaps⟩ := hfx
        generalize hcl : call f (xs.map (·.ev cs.sf) ++ caps) cs.σ cs.nxt fl = r at hr
        cases r with
        | none => simp [callIn] at hr
        | some r =>
          simp only [callIn, Option.some.injEq] at hr
          refine Runs.call hw h0 hf' (hc _ _ _ _ _ _ hcl K R st.σ _ h.mem ((evs_rel h.slot hop.1.2).append hcaps)) ?_
          rintro v σ' ⟨R', hle, hv, hm⟩
          have hS : SRel K fl R' ⟨cs.s, r.σ, r.nxt⟩ ⟨st.s, σ'⟩ := ⟨fun j => VRel.mono hle _ _ (h.slot j), hm⟩
          exact hk R' _ hle (hr ▸ hS.put hv)
      · cases hr
    · rw [h0] at hr hop
      obtain ⟨σ', h1, h2⟩ := store_case hop h hr
      exact Runs.storeS hw h0 h1 (hk R _ (Le.refl R) h2)
    · obtain ⟨g', h1, h2⟩ := row_case h0 hop h hr
      refine Runs.eff hw h1 fun id hid => ?_
      obtain ⟨R', h3, h4⟩ := h2 id hid
      exact hk R' _ h3 h4
    · rw [h0] at hr hop
      simp only [compO, clearB, clearIn] at hr
      simp only [okOp, VOp.xs, List.all_cons, List.all_nil, Bool.and_true, Bool.and_eq_true] at hop
      have hx := ev_rel h.slot hop.1
      split at hr
      · rename_i id off len hid
        rw [hid] at hx
        simp only [VRel] at hx
        obtain ⟨a, ha1, ha2⟩ := hx
        rw [brec] at hr
        split at hr
        · rename_i hf
          split at hr
          · rename_i ob hob
            have hob' : stF cs.σ id = some ob := hob
            obtain ⟨rows', g1, g2⟩ := h.mem.live _ _ _ ha2 hob'
            rw [brec] at hr
            split at hr
            · rename_i hcc
              simp only [Bool.and_eq_true, Nat.beq_eq, Nat.ble_eq] at hcc
              simp only [Option.some.injEq] at hr
              refine Runs.clear hw h0 ha1 g1 hcc.1 (by rw [g2.length]; exact hcc.2) ?_
              have hm := h.mem.write ha2 hob' (Nat.le_of_ble_eq_true hf) (((g2.take off).append (VRelL.replicate (noid_refl (R := R) z hop.2) len)).append (g2.drop (off + len)))
              have hS : SRel K fl R ⟨cs.s, setP none (some ⟨ob.elem, ob.sz, ob.rows.take off ++ List.replicate len z ++ ob.rows.drop (off + len)⟩) id cs.σ, cs.nxt⟩
                  ⟨st.s, upd st.σ a ⟨ob.elem, ob.sz, rows'.take off ++ List.replicate len z ++ rows'.drop (off + len)⟩⟩ := ⟨h.slot, by simp only [stF_set]; exact hm⟩
              exact hk R _ (Le.refl R) (hr ▸ hS.put VRel.nilt)
            · cases hr
          · cases hr
        · cases hr
      · cases hr
    · exact (bad_not h0 hr).elim
  · exact Runs.skipIns hw (hk R _ (Le.refl R) (h.put VRel.nilt))
theorem ins_T (hc : CallOk P call) {i : VIns} (hok : okIns i = true) (h : SRel K fl R cs st) (hr : (compI true i).f call fl cs = some cs') {K' : St → Prop}
    (hk : ∀ R' st', Le R R' → SRel K fl R' cs' st' → K' st') : T P i st K' := by
  have hop : okOp i.op = true := by simp only [okIns, Bool.and_eq_true] at hok; exact hok.1
  rcases compI_split hok h hr with ⟨hw, hr⟩ | ⟨hw, rfl⟩
  · refine T_true hw ?_
    rcases okind_cases i.op with h0 | ⟨fx, xs, h0⟩ | ⟨sz, a, x, h0⟩ | h0 | ⟨sz, z, x, h0⟩ | h0
    · obtain ⟨v', h1, h2, h3⟩ := pure_case h0 hop h hr
      unfold TO
      simp only [h0]
      exact ⟨h1, v', h2, hk R _ (Le.refl R) h3⟩
    · rw [h0] at hr hop
      rw [h0]
      simp only [compO, callB] at hr
      simp only [okOp, VOp.xs, List.all_cons, Bool.and_eq_true] at hop
      split at hr
      · rename_i f caps hf
        have hfx := ev_rel h.slot hop.1.1
        rw [hf] at hfx
        simp only [VRel] at hfx
        obtain ⟨caps', hf', hcaps⟩ := hfx
        generalize hcl : call f (xs.map (·.ev cs.sf) ++ caps) cs.σ cs.nxt cs.nxt = r at hr
        cases r with
        | none => simp [callInD] at hr
        | some r =>
          simp only [callInD, brec] at hr
          split at hr
          · rename_i hno
            simp only [Option.some.injEq] at hr
            refine ⟨f, caps', r.v, hf', fun σ1 hs1 => ?_, hk R _ (Le.refl R) (hr ▸ h.put (noid_refl r.v hno))⟩
            have hm0 : MRel σ1 cs.nxt R (stF cs.σ) cs.nxt σ1 := ⟨h.mem.dom, h.mem.live.sup hs1, h.mem.inj, h.mem.fn, SubStore.refl _, fun _ _ c _ _ hcR _ => h.mem.dom c _ hcR⟩
            refine (hc _ _ _ _ _ _ hcl σ1 R σ1 _ hm0 ((evs_rel h.slot hop.1.2).append hcaps)).drop ?_
            rintro v σ' ⟨R', hle, hv, hm⟩
            exact ⟨σ1, hm.keep, noid_eq _ _ hno hv, rfl⟩
          · cases hr
      · cases hr
    · rw [h0] at hr hop
      rw [h0]
      obtain ⟨σ', h1, h2⟩ := store_case hop h hr
      exact ⟨σ', h1, hk R _ (Le.refl R) h2⟩
    · obtain ⟨g', h1, h2⟩ := row_case h0 hop h hr
      unfold TO
      simp only [h0]
      refine ⟨g', h1, fun id hid => ?_⟩
      obtain ⟨R', h3, h4⟩ := h2 id hid
      exact hk R' _ h3 h4
    · rw [h0] at hr
      simp [compO, clearB] at hr
    · exact (bad_not h0 hr).elim
  · exact T_false hw (hk R _ (Le.refl R) (h.put VRel.nilt))
theorem evOpsN_cons (draw : Bool) (m : Nat) (i : VIns) (l : List VIns) : evOpsN draw call fl (m + 1) (i :: l) cs = match (compI draw i).f call fl cs with
    | some cs' => evOpsN draw call fl m l cs'
    | none => .bad := by
  show (@Option.casesOn CS (fun _ => Out) ((compI draw i).f call fl cs) .bad (evOpsN draw call fl m l)) = _
  cases (compI draw i).f call fl cs <;> rfl
theorem ops_run (hc : CallOk P call) : ∀ (m : Nat) (l : List VIns) (R : Nat → Nat → Prop) (cs : CS) (st : St), evOpsN false call fl m l cs = .nx cs' → l.all okIns = true → SRel K fl R cs st →
    (∀ R' st', Le R R' → SRel K fl R' cs' st' → Runs P n k st' Q) → Runs P n (.ops l :: k) st Q
  | 0, _, _, _, _, h, _, _, _ => by cases h
  | m + 1, [], R, cs, st, h, _, hs, hk => by
    have h' : Out.nx cs = .nx cs' := h
    simp only [Out.nx.injEq] at h'
    subst h'
    exact Runs.ops_nil (hk R st (Le.refl R) hs)
  | m + 1, i :: l, R, cs, st, h, hok, hs, hk => by
    rw [evOpsN_cons] at h
    simp only [List.all_cons, Bool.and_eq_true] at hok
    split at h
    · rename_i cs1 h1
      refine ins_run hc hok.1 hs h1 fun R' st' hle hs' => ?_
      exact ops_run hc m l R' cs1 st' h hok.2 hs' fun R'' st'' hle' hs'' => hk R'' st'' (hle.trans hle') hs''
    · cases h
theorem ops_T (hc : CallOk P call) {K' : St → Prop} : ∀ (m : Nat) (l : List VIns) (R : Nat → Nat → Prop) (cs : CS) (st : St), evOpsN true call fl m l cs = .nx cs' → l.all okIns = true → SRel K fl R cs st →
    (∀ R' st', Le R R' → SRel K fl R' cs' st' → K' st') → TChain P K' l st
  | 0, _, _, _, _, h, _, _, _ => by cases h
  | m + 1, [], R, cs, st, h, _, hs, hk => by
    have h' : Out.nx cs = .nx cs' := h
    simp only [Out.nx.injEq] at h'
    subst h'
    exact hk R st (Le.refl R) hs
  | m + 1, i :: l, R, cs, st, h, hok, hs, hk => by
    rw [evOpsN_cons] at h
    simp only [List.all_cons, Bool.and_eq_true] at hok
    split at h
    · rename_i cs1 h1
      refine ins_T hc hok.1 hs h1 fun R' st' hle hs' => ?_
      exact ops_T hc m l R' cs1 st' h hok.2 hs' fun R'' st'' hle' hs'' => hk R'' st'' (hle.trans hle') hs''
    · cases h
end
/-- what an outcome leads to -/
def Then (P : Program) (n : Nat) (K : Store) (fl : Nat) (R : Nat → Nat → Prop) (k : List It) (Q : St → Prop) : Out → Prop
  | .nx cs => ∀ R' st, Le R R' → SRel K fl R' cs st → Runs P n k st Q
  | .ex id cs => ∃ k', popTo id k = some k' ∧ ∀ R' st, Le R R' → SRel K fl R' cs st → Runs P n k' st Q
  | .rt cs => ∀ R' st, Le R R' → SRel K fl R' cs st → Q st
  | .bad => False
theorem Then.le {K : Store} {fl : Nat} {R R' : Nat → Nat → Prop} {k : List It} {Q : St → Prop} {o : Out} (h : Then P n K fl R k Q o) (hle : Le R R') : Then P n K fl R' k Q o := by
  cases o
  case bad => exact h
  case ex => obtain ⟨k', h1, h2⟩ := h; exact ⟨k', h1, fun R'' st h3 h4 => h2 R'' st (hle.trans h3) h4⟩
  all_goals exact fun R'' st h3 h4 => h R'' st (hle.trans h3) h4
def CodeOk (P : Program) (code : FuncId → Option VFn) : Prop := ∀ g vf, code g = some vf → callable P g = true ∧ okFn vf = true ∧ ∃ fn, P.funcs[g]? = some fn ∧ cfn P fn = some vf
def LOk (P : Program) (code : FuncId → Option VFn) (fuel : Nat) : Prop := ∀ (n : Nat) (K : Store) (fl : Nat) (R : Nat → Nat → Prop) (c : VCode) (cs : CS) (st : St) (k : List It) (Q : St → Prop),
  okCode c = true → SRel K fl R cs st → Then P n K fl R k Q (evL code fuel fl c cs) → Runs P n (.code c :: k) st Q
theorem ofL_get (i : Nat) : ∀ (l : List V) (k : Nat) (t : Tr V), getP (.tup []) i (Tr.ofL l k t) = if k ≤ i ∧ i < k + l.length then l.getD (i - k) (.tup []) else getP (.tup []) i t
  | [], k, t => by simp [Tr.ofL]; intro h1 h2; omega
  | v :: l, k, t => by
    rw [Tr.ofL, ofL_get i l (k + 1), getP_set]
    simp only [List.length_cons]
    by_cases h1 : i = k
    · subst h1
      rw [if_neg (by omega), if_pos rfl, if_pos (by omega)]
      simp
    · by_cases h2 : k + 1 ≤ i ∧ i < k + 1 + l.length
      · rw [if_pos h2, if_pos (by omega), show i - k = (i - (k + 1)) + 1 by omega]
        simp
      · rw [if_neg h2, if_neg h1, if_neg (by omega)]
theorem resOne_rel {K : Store} {fl : Nat} {R : Nat → Nat → Prop} {cs : CS} {st : St} (h : SRel K fl R cs st) {r : VR} (hok : okRes r = true) {v : V} (hv : resOne ⟨cs.sf, stF cs.σ⟩ r = some v) :
    ∃ v', resOne st r = some v' ∧ VRel R v v' := by
  cases r <;> simp only [resOne, reduceCtorEq, Option.some.injEq] at hv ⊢
  case tmp x => subst hv; exact ⟨_, rfl, ev_rel h.slot hok⟩
  case cell agg sz x => exact loadV_rel h.mem.live (ev_rel h.slot hok) hv
theorem resAll_rel {K : Store} {fl : Nat} {R : Nat → Nat → Prop} {cs : CS} {st : St} (h : SRel K fl R cs st) : ∀ {l : List VR}, l.all okRes = true → ∀ {vs : List V}, resAll ⟨cs.sf, stF cs.σ⟩ l = some vs →
    ∃ vs', resAll st l = some vs' ∧ VRelL R vs vs'
  | [], _, vs, hv => by simp only [resAll, Option.some.injEq] at hv; subst hv; exact ⟨[], rfl, by simp [VRelL]⟩
  | r :: l, hok, vs, hv => by
    simp only [List.all_cons, Bool.and_eq_true] at hok
    simp only [resAll] at hv
    split at hv
    · rename_i v h1
      split at hv
      · rename_i us h2
        simp only [Option.some.injEq] at hv; subst hv
        obtain ⟨v', g1, g2⟩ := resOne_rel h hok.1 h1
        obtain ⟨us', g3, g4⟩ := resAll_rel h hok.2 h2
        exact ⟨v' :: us', by simp [resAll, g1, g3], VRelL.cons_iff.2 ⟨v', us', rfl, g2, g4⟩⟩
      · cases hv
    · cases hv
theorem resV_rel {K : Store} {fl : Nat} {R : Nat → Nat → Prop} {cs : CS} {st : St} (h : SRel K fl R cs st) {l : List VR} (hok : l.all okRes = true) {v : V} (hv : resV ⟨cs.sf, stF cs.σ⟩ l = some v) :
    ∃ v', resV st l = some v' ∧ VRel R v v' := by
  unfold resV at hv
  cases hr : resAll ⟨cs.sf, stF cs.σ⟩ l with
  | none => simp [hr] at hv
  | some vs =>
    obtain ⟨vs', g1, g2⟩ := resAll_rel h hok hr
    rw [hr] at hv
    unfold resV
    rw [g1]
    match vs, hv, g2 with
    | [], hv, g2 =>
      rw [VRelL.nil_iff] at g2; subst g2
      simp only [Option.some.injEq] at hv; subst hv
      exact ⟨_, rfl, by simp [VRel, VRelL]⟩
    | [u], hv, g2 =>
      obtain ⟨x, xs, rfl, g3, g4⟩ := VRelL.cons_iff.1 g2
      rw [VRelL.nil_iff] at g4; subst g4
      simp only [Option.some.injEq] at hv; subst hv
      exact ⟨_, rfl, g3⟩
    | u1 :: u2 :: us, hv, g2 =>
      obtain ⟨x, xs, rfl, g3, g4⟩ := VRelL.cons_iff.1 g2
      obtain ⟨y, ys, rfl, g5, g6⟩ := VRelL.cons_iff.1 g4
      simp only [Option.some.injEq] at hv; subst hv
      exact ⟨_, rfl, by simp only [VRel]; exact ⟨_, rfl, g2⟩⟩
theorem call_ok {code : FuncId → Option VFn} (hcode : CodeOk P code) {fuel : Nat} (ih : LOk P code fuel) : CallOk P (evF (evL code fuel) code) := by
  intro g args σc nxt fl r hr K R σ args' hm hargs
  unfold evF at hr
  split at hr
  · cases hr
  · rename_i vf hvf
    rw [bcase] at hr
    split at hr
    · rename_i hlen
      obtain ⟨hcl, hok, fn, hf, hcf⟩ := hcode g vf hvf
      simp only [okFn, Bool.and_eq_true] at hok
      have hlen' := Nat.le_of_ble_eq_true hlen
      refine Contract.of_runs hf hcf hcl (by rw [hargs.length]; exact hlen') ?_
      have hs : SRel K fl R ⟨Tr.ofL args 0 .e, σc, nxt⟩ ⟨argSlots args', σ⟩ := by
        refine ⟨fun i => ?_, hm⟩
        show VRel R (getP (.tup []) i (Tr.ofL args 0 .e)) (args'.getD i (.tup []))
        rw [ofL_get, getP_e]
        by_cases hi : i < args.length
        · rw [if_pos ⟨Nat.zero_le _, by omega⟩, Nat.sub_zero]
          obtain ⟨u, h1, h2⟩ := hargs.get (List.getElem?_eq_getElem hi)
          simp only [List.getD_eq_getElem?_getD, h1, List.getElem?_eq_getElem hi, Option.getD_some]
          exact h2
        · rw [if_neg (by omega)]
          have : args'[i]? = none := List.getElem?_eq_none (by rw [hargs.length]; omega)
          simp only [List.getD_eq_getElem?_getD, this, Option.getD_none]
          simp [VRel, VRelL]
      have hfin : ∀ cs', resQ vf.res cs' = some r → ∀ R' st, Le R R' → SRel K fl R' cs' st → Ret vf.res st fun v σ' => ∃ R', Le R R' ∧ VRel R' r.v v ∧ MRel K fl R' (stF r.σ) r.nxt σ' := by
        intro cs' hq R' st hle hs'
        unfold resQ at hq
        split at hq
        · rename_i v hv
          simp only [Option.some.injEq] at hq
          subst hq
          obtain ⟨v', g1, g2⟩ := resV_rel hs' hok.2 hv
          exact ⟨v', v', st.σ, g1, SubStore.refl _, Wk.refl (SubStore.refl _) _, R', hle, g2, hs'.mem⟩
        · cases hq
      refine ih vf.n K fl R vf.code _ _ [] _ hok.1 hs ?_
      generalize evL code fuel fl vf.code ⟨Tr.ofL args 0 .e, σc, nxt⟩ = o at hr
      cases o <;> simp only [outQ, reduceCtorEq] at hr
      · exact fun R' st hle hs' => Runs.nil (hfin _ hr R' st hle hs')
      · exact fun R' st hle hs' => hfin _ hr R' st hle hs'
    · cases hr
theorem evL_succ (code : FuncId → Option VFn) (f fl : Nat) (c : VCode) (cs : CS) : evL code (f + 1) fl c cs = match c with
      | .skip => .nx cs
      | .reg draw l => evOps draw (evF (evL code f) code) fl l cs
      | .seq a b => onNx (evL code f fl a cs) fun cs' => evL code f fl b cs'
      | .cond c a b => onB (c.ev cs.sf) (evL code f fl a cs) (evL code f fl b cs)
      | .block id a => onEx id (evL code f fl a cs)
      | .loop a => onNx (evL code f fl a cs) fun cs' => evL code f fl (.loop a) cs'
      | .exit id => .ex id cs
      | .ret => .rt cs
      | .bad => .bad := rfl
theorem evOps_nx {draw : Bool} {call : CallT} {fl : Nat} : ∀ (m : Nat) (l : List VIns) (cs : CS), (∃ cs', evOpsN draw call fl m l cs = .nx cs') ∨ evOpsN draw call fl m l cs = .bad
  | 0, _, _ => .inr rfl
  | m + 1, [], cs => .inl ⟨cs, rfl⟩
  | m + 1, i :: l, cs => by
    rw [evOpsN_cons]
    split
    · exact evOps_nx m l _
    · exact .inr rfl
theorem evL_ok {code : FuncId → Option VFn} (hcode : CodeOk P code) : ∀ fuel, LOk P code fuel := by
  intro fuel
  induction fuel using Nat.strongRecOn with
  | _ fuel ih =>
    intro n K fl R c cs st k Q hok hs hthen
    cases fuel with
    | zero => exact hthen.elim
    | succ f =>
      have ihf := ih f (by omega)
      rw [evL_succ] at hthen
      cases c with
      | skip => exact Runs.skip (hthen R st (Le.refl R) hs)
      | reg draw l =>
        simp only [okCode] at hok
        simp only [evOps] at hthen
        rcases evOps_nx (draw := draw) (call := evF (evL code f) code) (fl := fl) 1000 l cs with ⟨cs', he⟩ | he
        · rw [he] at hthen
          cases draw
          · exact Runs.region (ops_run (call_ok hcode ihf) 1000 l R cs st he hok hs hthen)
          · exact Runs.dregion (ops_T (call_ok hcode ihf) 1000 l R cs st he hok hs hthen)
        · rw [he] at hthen; exact hthen.elim
      | seq a b =>
        simp only [okCode, Bool.and_eq_true] at hok
        refine Runs.seq (ihf n K fl R a cs st _ Q hok.1 hs ?_)
        simp only [onNx] at hthen
        generalize evL code f fl a cs = o at hthen
        cases o with
        | nx cs1 => exact fun R1 st1 hle1 hs1 => ihf n K fl R1 b cs1 st1 k Q hok.2 hs1 (hthen.le hle1)
        | ex id cs1 => exact hthen
        | rt cs1 => exact hthen
        | bad => exact hthen
      | cond c a b =>
        simp only [okCode, Bool.and_eq_true] at hok
        have hv := ev_rel hs.slot hok.1
        have hthen : Then P n K fl R k Q (onB (c.ev cs.sf) (evL code f fl a cs) (evL code f fl b cs)) := hthen
        unfold onB at hthen
        split at hthen
        · rename_i t ht
          rw [ht, VRel.bool_iff] at hv
          refine Runs.cond hv (fun e => ?_) (fun e => ?_)
          · subst e; exact ihf n K fl R a cs st k Q hok.2.1 hs hthen
          · subst e; exact ihf n K fl R b cs st k Q hok.2.2 hs hthen
        · exact hthen.elim
      | block id a =>
        simp only [okCode] at hok
        refine Runs.block (ihf n K fl R a cs st _ Q hok hs ?_)
        simp only [onEx] at hthen
        generalize evL code f fl a cs = o at hthen
        cases o with
        | nx cs1 => exact fun R1 st1 hle1 hs1 => Runs.inBlock (hthen R1 st1 hle1 hs1)
        | ex j cs1 =>
          simp only [brec] at hthen
          by_cases hj : j = id
          · subst hj
            rw [if_pos (by rw [Nat.beq_eq])] at hthen
            exact ⟨k, by simp [popTo], hthen⟩
          · rw [if_neg (by rw [Nat.beq_eq]; exact hj)] at hthen
            obtain ⟨k', h1, h2⟩ := hthen
            exact ⟨k', by simp [popTo, hj, h1], h2⟩
        | rt cs1 => exact hthen
        | bad => exact hthen
      | loop a =>
        have hok' := hok
        simp only [okCode] at hok
        have hthen0 : Then P n K fl R k Q (evL code (f + 1) fl (.loop a) cs) := hthen
        generalize ho : evL code (f + 1) fl (.loop a) cs = o at hthen0
        refine Runs.loop (fun m st => m ≤ f + 1 ∧ ∃ R1 cs1, Le R R1 ∧ SRel K fl R1 cs1 st ∧ evL code m fl (.loop a) cs1 = o) (f + 1) ⟨Nat.le_refl _, R, cs, Le.refl R, hs, ho⟩ ?_
        rintro m st1 ⟨hm, R1, cs1, hle1, hs1, ho1⟩
        cases m with
        | zero =>
          have : o = .bad := ho1.symm
          rw [this] at hthen0; exact hthen0.elim
        | succ m =>
          have ihm := ih m (by omega)
          rw [evL_succ] at ho1
          refine ihm n K fl R1 a cs1 st1 _ Q hok hs1 ?_
          simp only [onNx] at ho1
          generalize evL code m fl a cs1 = o1 at ho1
          cases o1 with
          | nx cs2 => exact fun R2 st2 hle2 hs2 => Runs.stop ⟨m, by omega, by omega, R2, cs2, hle1.trans hle2, hs2, ho1⟩
          | ex id cs2 =>
            have ho1 : Out.ex id cs2 = o := ho1
            rw [← ho1] at hthen0
            obtain ⟨k', h1, h2⟩ := hthen0
            exact ⟨k', by simpa [popTo] using h1, fun R2 st2 hle2 hs2 => h2 R2 st2 (hle1.trans hle2) hs2⟩
          | rt cs2 =>
            have ho1 : Out.rt cs2 = o := ho1
            rw [← ho1] at hthen0
            exact fun R2 st2 hle2 hs2 => hthen0 R2 st2 (hle1.trans hle2) hs2
          | bad =>
            have ho1 : Out.bad = o := ho1
            rw [← ho1] at hthen0; exact hthen0.elim
      | exit id =>
        obtain ⟨k', h1, h2⟩ := hthen
        exact Runs.exit h1 (h2 R st (Le.refl R) hs)
      | ret => exact Runs.ret (hthen R st (Le.refl R) hs)
      | bad => exact hthen.elim
end Go.Vc
