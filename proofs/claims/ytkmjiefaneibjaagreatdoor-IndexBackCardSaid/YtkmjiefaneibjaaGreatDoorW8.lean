/- Part 8 of the library of this proof. -/
import Derived.Test.YtkmjiefaneibjaaGreatDoorW7
import Derived.KernelRfl
set_option linter.all false
namespace Go.Vc
variable {R : Nat → Nat → Prop} {K : Store} {fl : Nat} {P : Program} {n : Nat}
structure SRel (K : Store) (fl : Nat) (R : Nat → Nat → Prop) (cs : CS) (st : St) : Prop where
  slot : ∀ i, VRel R (cs.sf i) (st.s i)
  mem : MRel K fl R (stF cs.σ) cs.nxt st.σ
theorem slots_put {s s' : Nat → V} (h : ∀ i, VRel R (s i) (s' i)) {d : Option Nat} {v u : V} (hv : VRel R v u) : ∀ i, VRel R (putO s d v i) (putO s' d u i) := by
  intro i
  cases d with
  | none => exact h i
  | some d =>
    show VRel R (if i = d then v else s i) (if i = d then u else s' i)
    split
    · exact hv
    · exact h i
theorem SRel.put {cs : CS} {st : St} (h : SRel K fl R cs st) {d : Option Nat} {v u : V} (hv : VRel R v u) : SRel K fl R (cs.put d v) ⟨putO st.s d u, st.σ⟩ := by
  refine ⟨?_, ?_⟩
  · rw [sf_put]; exact slots_put h.slot hv
  · rw [(put_σ cs d v).1, (put_σ cs d v).2]; exact h.mem
theorem VRel.nilt : VRel R (.tup []) (.tup []) := by simp [VRel, VRelL]
theorem eqQ_eq (a b : Int) : eqQ a b = decide (a = b) := by
  cases a <;> cases b <;> rw [Bool.eq_iff_iff] <;> simp [eqQ] <;> first | rfl | omega
theorem leQ_eq (a b : Int) : leQ a b = decide (a ≤ b) := by
  cases a <;> cases b <;> rw [Bool.eq_iff_iff] <;> simp only [leQ, Nat.ble_eq, decide_eq_true_eq, Bool.false_eq_true, false_iff, true_iff, Int.ofNat_eq_natCast] <;> omega
theorem addQ_eq (a b : Int) : addQ a b = a + b := by cases a <;> cases b <;> rfl
theorem subQ_eq (a b : Int) : subQ a b = a - b := by
  cases a <;> cases b <;> simp only [subQ]
  rename_i m k
  cases h : Nat.ble k m
  · have : ¬ k ≤ m := by rw [← Nat.ble_eq]; simp [h]
    simp only [Nat.sub_eq, Int.ofNat_eq_natCast]
    omega
  · have : k ≤ m := Nat.le_of_ble_eq_true h
    simp only [Nat.sub_eq, Int.ofNat_eq_natCast]
    omega
theorem in64_eq {a : Int} (h : in64 a = true) : inR .i64 a := by
  cases a <;> simp only [in64, Nat.ble_eq] at h
  · rw [Int.ofNat_eq_natCast]; exact inR_i64 (by omega) (by omega)
  · exact inR_i64 (by omega) (by omega)
theorem inRB_eq {k : IntKind} {a : Int} (h : inRB k a = true) : inR k a := by
  unfold inRB at h
  split at h
  · exact in64_eq h
  · simpa [inR] using h
theorem bcase {α : Type} {b : Bool} {x y : α} : @Bool.casesOn (fun _ => α) b x y = if b then y else x := by cases b <;> rfl
theorem brec {α : Type} {b : Bool} {x y : α} : @Bool.rec (fun _ => α) x y b = if b then y else x := by cases b <;> rfl
theorem gI_eq {k : IntKind} {a : Int} {v : V} (h : gI k a = some v) : v = .int k a ∧ inR k a := by
  unfold gI at h
  rw [bcase] at h
  split at h
  · rename_i hi
    simp only [Option.some.injEq] at h
    exact ⟨h.symm, inRB_eq hi⟩
  · cases h
theorem intBinQ_eq {op : BinOp} {k : IntKind} {a b : Int} {v : V} (h : (intBinQ op).f k a b = some v) : intPre op k a b ∧ intBin op k a b = some v := by
  unfold intBinQ at h
  split at h <;> simp only [] at h
  · obtain ⟨rfl, h2⟩ := gI_eq h; rw [addQ_eq] at *; exact ⟨h2, rfl⟩
  · obtain ⟨rfl, h2⟩ := gI_eq h; rw [subQ_eq] at *; exact ⟨h2, rfl⟩
  · obtain ⟨rfl, h2⟩ := gI_eq h; exact ⟨h2, rfl⟩
  · split at h
    · cases h
    · rename_i hb
      obtain ⟨rfl, h2⟩ := gI_eq h; exact ⟨h2, by simp [intBin, hb]⟩
  · split at h
    · cases h
    · rename_i hb
      simp only [Option.some.injEq] at h; subst h
      exact ⟨trivial, by simp [intBin, hb]⟩
  all_goals first
    | exact ⟨trivial, h⟩
    | (simp only [Option.some.injEq] at h; subst h; refine ⟨trivial, ?_⟩; simp only [eqQ_eq, leQ_eq, intBin, Option.some.injEq, V.bool.injEq]; try (rw [Bool.eq_iff_iff]; simp))
    | cases h
theorem strBinQ_eq {op : BinOp} {a b : List UInt8} {v : V} (h : strBinQ op a b = some v) : strPre op a b ∧ strBin op a b = some v := by
  unfold strBinQ at h
  split at h
  · rw [bcase] at h
    split at h
    · rename_i hb
      simp only [Option.some.injEq] at h; subst h
      exact ⟨Nat.le_of_ble_eq_true hb, rfl⟩
    · cases h
  · exact ⟨trivial, h⟩
  · exact ⟨trivial, h⟩
  · cases h
theorem sameK_eq {k k' : IntKind} (h : sameK k k' = true) : k = k' := by
  unfold sameK at h
  rw [bcase] at h
  cases k <;> cases k' <;> simp_all [is64, eqK]
theorem binQ_eq {op : BinOp} {x y v : V} (h : binQ op (intBinQ op).f y x = some v) : binPre op x y ∧ binV op x y = some v := by
  unfold binQ at h
  split at h
  · unfold binI at h
    split at h
    · rw [bcase] at h
      split at h
      · rename_i hk
        have := sameK_eq hk
        subst this
        obtain ⟨h1, h2⟩ := intBinQ_eq h
        exact ⟨h1, by simp [binV, h2]⟩
      · cases h
    · cases h
  · unfold binS at h
    split at h
    · exact strBinQ_eq h
    · cases h
  · cases h
theorem idxQ_eq {σ : Tr (Option Ob)} {esz : Nat} {x i v : V} (h : idxQ σ esz x i = some v) : idxAV (stF σ) esz x i = some v := by
  unfold idxQ at h
  split at h
  · split at h
    · rename_i m hm
      have hj := hm
      unfold natQ at hm
      split at hm
      · simp only [Option.some.injEq] at hm; subst hm
        split at h
        · rename_i ob hob
          rw [bcase] at h
          split at h
          · rename_i hc
            simp only [Bool.and_eq_true, Nat.beq_eq, Nat.blt_eq] at hc
            have e : stF σ _ = some ob := hob
            simp only [idxAV, e]
            rw [if_pos ⟨hc.1, by simp, by simpa using hc.2⟩]
            exact h
          · cases h
        · cases h
      · cases hm
    · cases h
  · split at h
    · rename_i m hm
      unfold natQ at hm
      split at hm
      · simp only [Option.some.injEq] at hm; subst hm
        rw [bcase] at h
        split at h
        · rename_i hc
          rw [Nat.beq_eq] at hc
          simp only [idxAV]
          rw [if_pos ⟨hc, by simp⟩]
          exact h
        · cases h
      · cases hm
    · cases h
  · cases h
theorem idxSQ_eq {x i v : V} (h : idxSQ x i = some v) : idxSV x i = some v := by
  unfold idxSQ at h
  split at h
  · split at h
    · rename_i m hm
      unfold natQ at hm
      split at hm
      · simp only [Option.some.injEq] at hm; subst hm
        simp only [idxSV]
        rw [if_pos (by simp)]
        exact h
      · cases hm
    · cases h
  · cases h
theorem loadQ_eq {σ : Tr (Option Ob)} {agg : Bool} {sz : Nat} {x v : V} (h : loadQ σ agg sz x = some v) : loadV (stF σ) agg sz x = some v := by
  unfold loadQ at h
  split at h
  · split at h
    · rename_i ob hob
      have e : stF σ _ = some ob := hob
      split at h
      · rename_i r hr
        simp only [loadV, e, hr]
        split at h
        · rw [bcase, bcase] at h
          simp only [if_true]
          split at h
          · rename_i hc
            simp only [Bool.and_eq_true, Nat.beq_eq] at hc
            rw [if_pos hc]; exact h
          · rename_i hc
            split at h
            · rename_i hc'
              rw [if_neg (by simpa using hc), if_pos (show _ + sz ≤ _ from Nat.le_of_ble_eq_true hc')]; exact h
            · cases h
        · simpa using h
      · cases h
    · cases h
  · exact h
theorem pure_case {draw : Bool} {call : CallT} {dst : Option Nat} {op : VOp} {cs cs' : CS} {st : St} (hk : okind op = 0) (hok : okOp op = true) (h : SRel K fl R cs st)
    (hr : (compO draw dst op).f call fl cs = some cs') : ∃ v', vpre st.s op ∧ vpure st.σ st.s op = some v' ∧ SRel K fl R cs' ⟨putO st.s dst v', st.σ⟩ := by
  have key : ∃ v, vpre cs.sf op ∧ vpure (stF cs.σ) cs.sf op = some v ∧ cs' = cs.put dst v := by
    have hp : ∀ (g : CS → Option V), (pureB dst g).f call fl cs = some cs' → ∃ v, g cs = some v ∧ cs' = cs.put dst v := by
      intro g hg
      simp only [pureB] at hg
      split at hg
      · rename_i v hv
        simp only [Option.some.injEq] at hg
        exact ⟨v, hv, hg.symm⟩
      · cases hg
    cases op <;> simp only [okind, reduceCtorEq, Nat.reduceEqDiff] at hk <;> simp only [compO] at hr
    case mov x =>
      simp only [movB, Option.some.injEq] at hr
      exact ⟨_, trivial, rfl, hr.symm⟩
    case bin op x y =>
      have hr' : (pureB dst fun cs => binQ op (intBinQ op).f (y.ev cs.sf) (x.ev cs.sf)).f call fl cs = some cs' := hr
      obtain ⟨v, h1, h2⟩ := hp _ hr'
      obtain ⟨h3, h4⟩ := binQ_eq h1
      exact ⟨v, h3, h4, h2⟩
    case pick c a b =>
      obtain ⟨v, h1, h2⟩ := hp _ hr
      refine ⟨v, trivial, ?_, h2⟩
      simp only [vpure]
      unfold pickQ at h1
      split at h1
      · rename_i t ht
        rw [bcase] at h1
        rw [ht]
        exact h1
      · cases h1
    case not x =>
      obtain ⟨v, h1, h2⟩ := hp _ hr
      refine ⟨v, trivial, ?_, h2⟩
      simp only [vpure]
      unfold notQ at h1
      split at h1
      · rename_i t ht; rw [ht]; exact h1
      · cases h1
    case neg x =>
      obtain ⟨v, h1, h2⟩ := hp _ hr
      unfold negQ at h1
      split at h1
      · rename_i k t ht
        obtain ⟨h3, h4⟩ := gI_eq h1
        exact ⟨v, by simp only [vpre, ht]; exact h4, by simp only [vpure, ht, h3], h2⟩
      · cases h1
    case convI k x =>
      obtain ⟨v, h1, h2⟩ := hp _ hr
      unfold convQ at h1
      split at h1
      · rename_i k t ht
        obtain ⟨h3, h4⟩ := gI_eq h1
        exact ⟨v, by simp only [vpre, ht]; exact h4, by simp only [vpure, ht, h3], h2⟩
      · cases h1
    case idxA => obtain ⟨v, h1, h2⟩ := hp _ hr; exact ⟨v, trivial, idxQ_eq h1, h2⟩
    case idxS => obtain ⟨v, h1, h2⟩ := hp _ hr; exact ⟨v, trivial, idxSQ_eq h1, h2⟩
    case load => obtain ⟨v, h1, h2⟩ := hp _ hr; exact ⟨v, trivial, loadQ_eq h1, h2⟩
    all_goals (obtain ⟨v, h1, h2⟩ := hp _ hr; exact ⟨v, trivial, h1, h2⟩)
  obtain ⟨v, h1, h2, rfl⟩ := key
  obtain ⟨h3, v', h4, h5⟩ := vpure_rel h.mem.live h.slot hok h1 h2
  exact ⟨v', h3, h4, h.put h5⟩
theorem srcRows_rel {σc σ : Store} (hm : Lv R σc σ) {sz : Nat} {x x' : V} {l : List V} (hx : VRel R x x') (h : srcRows σc sz x = some l) : ∃ l', srcRows σ sz x' = some l' ∧ VRelL R l l' := by
  unfold srcRows at h
  split at h
  · simp only [VRel] at hx
    obtain ⟨a, rfl, ha⟩ := hx
    split at h
    · rename_i ob hob
      obtain ⟨rows', h1, h2⟩ := hm _ _ _ ha hob
      split at h
      · rename_i hc
        simp only [Option.some.injEq] at h; subst h
        refine ⟨_, ?_, (h2.drop _).take _⟩
        simp only [srcRows, h1, h2.length]
        rw [if_pos hc]
      · cases h
    · cases h
  · simp only [VRel] at hx
    obtain ⟨rows', rfl, hr⟩ := hx
    split at h
    · rename_i hc
      simp only [Option.some.injEq] at h; subst h
      exact ⟨rows', by simp [srcRows, hc], hr⟩
    · cases h
  · simp only [VRel] at hx; subst hx
    simp only [Option.some.injEq] at h; subst h
    exact ⟨[], rfl, by simp [VRelL]⟩
  · rename_i s
    simp only [VRel] at hx; subst hx
    refine ⟨l, h, ?_⟩
    split at h
    · simp only [Option.some.injEq] at h; subst h
      induction s with
      | nil => simp [VRelL]
      | cons b s ih => simp only [List.map_cons, VRelL]; exact ⟨_, _, rfl, by simp [VRel], ih⟩
    · cases h
  · cases h
theorem dstRows_rel {σc σ : Store} (hm : Lv R σc σ) {e sz : Nat} {x x' : V} {l : List V} {d : Option Nat} (hx : VRel R x x') (h : dstRows σc e sz x = some (l, d)) :
    ∃ l' d', dstRows σ e sz x' = some (l', d') ∧ VRelL R l l' ∧ (d = none ∧ d' = none ∨ ∃ c a o, d = some c ∧ d' = some a ∧ R c a ∧ σc c = some o) := by
  unfold dstRows at h
  split at h
  · simp only [VRel] at hx
    obtain ⟨a, rfl, ha⟩ := hx
    split at h
    · rename_i ob hob
      obtain ⟨rows', h1, h2⟩ := hm _ _ _ ha hob
      split at h
      · rename_i hc
        simp only [Option.some.injEq, Prod.mk.injEq] at h
        obtain ⟨rfl, rfl⟩ := h
        refine ⟨_, some a, ?_, h2.take _, .inr ⟨_, a, ob, rfl, rfl, ha, hob⟩⟩
        simp only [dstRows, h1, h2.length]
        rw [if_pos hc]
      · cases h
    · cases h
  · simp only [VRel] at hx; subst hx
    simp only [Option.some.injEq, Prod.mk.injEq] at h
    obtain ⟨rfl, rfl⟩ := h
    exact ⟨[], none, rfl, by simp [VRelL], .inl ⟨rfl, rfl⟩⟩
  · cases h
theorem addRow_rel {dst : Option Nat} {cs cs' : CS} {st : St} (h : SRel K fl R cs st) {m : Mk} {rows' : List V} {d' : Option Nat} (hrows : VRelL R m.ob.rows rows')
    (hd : m.gone = none ∧ d' = none ∨ ∃ c a o, m.gone = some c ∧ d' = some a ∧ R c a ∧ stF cs.σ c = some o) (hr : addRow fl dst cs m = some cs') {id : Nat} (hid : st.σ id = none) :
    ∃ R', (∀ a b, R a b → R' a b) ∧ SRel K fl R' cs' ⟨putO st.s dst (if m.var then .ptr id 0 0 else .own id 0 m.len), upd (delO st.σ d') id ⟨m.ob.elem, m.ob.sz, rows'⟩⟩ := by
  refine ⟨ext R cs.nxt id, ext_le _ _, ?_⟩
  have hval : VRel (ext R cs.nxt id) (@Bool.casesOn (fun _ => V) m.var (.own cs.nxt 0 m.len) (.ptr cs.nxt 0 0)) (if m.var then .ptr id 0 0 else .own id 0 m.len) := by
    cases m.var
    · simp only [VRel, Bool.false_eq_true, if_false]; exact ⟨id, rfl, .inr ⟨rfl, rfl⟩⟩
    · simp only [VRel, if_true]; exact ⟨id, rfl, .inr ⟨rfl, rfl⟩⟩
  have hslot : ∀ i, VRel (ext R cs.nxt id) (cs.sf i) (st.s i) := fun i => VRel.mono (ext_le _ _) _ _ (h.slot i)
  unfold addRow at hr
  rcases hd with ⟨e1, rfl⟩ | ⟨c, a, o, e1, rfl, hR, ho⟩
  · rw [e1] at hr
    simp only [Option.some.injEq] at hr
    subst hr
    have hm := h.mem.new hid hrows
    have hS : SRel K fl (ext R cs.nxt id) ⟨cs.s, setP none (some m.ob) cs.nxt cs.σ, Nat.succ cs.nxt⟩ ⟨st.s, upd st.σ id ⟨m.ob.elem, m.ob.sz, rows'⟩⟩ :=
      ⟨hslot, by simp only [stF_set]; exact hm⟩
    exact hS.put hval
  · rw [e1] at hr
    simp only [bcase] at hr
    split at hr
    · rename_i hf
      simp only [Option.some.injEq] at hr
      subst hr
      have h1 := h.mem.rem hR ho (Nat.le_of_ble_eq_true hf)
      have hid' : del st.σ a id = none := by
        by_cases e : id = a
        · simp [del, e]
        · rw [del_ne e]; exact hid
      have hm := h1.new hid' hrows
      have hS : SRel K fl (ext R cs.nxt id) ⟨cs.s, setP none (some m.ob) cs.nxt (setP none none c cs.σ), Nat.succ cs.nxt⟩ ⟨st.s, upd (del st.σ a) id ⟨m.ob.elem, m.ob.sz, rows'⟩⟩ :=
        ⟨hslot, by simp only [stF_set, stF_del]; exact hm⟩
      rw [bcase] at hval
      exact hS.put hval
    · cases hr
theorem row_case {draw : Bool} {call : CallT} {dst : Option Nat} {op : VOp} {cs cs' : CS} {st : St} (hk : okind op = 3) (hok : okOp op = true) (h : SRel K fl R cs st)
    (hr : (compO draw dst op).f call fl cs = some cs') : ∃ g', eff st.s st.σ op = some g' ∧ ∀ id, st.σ id = none → ∃ R', (∀ a b, R a b → R' a b) ∧
      SRel K fl R' cs' ⟨putO st.s dst (g' id).1, (g' id).2⟩ := by
  have hp : ∀ (g : CS → Option Mk), (rowB dst g).f call fl cs = some cs' → ∃ m, g cs = some m ∧ addRow fl dst cs m = some cs' := by
    intro g hg
    simp only [rowB] at hg
    split at hg
    · rename_i v hv
      exact ⟨v, hv, hg⟩
    · cases hg
  simp only [okOp, Bool.and_eq_true] at hok
  have hx := List.all_eq_true.1 hok.1
  cases op <;> simp only [okind, reduceCtorEq, Nat.reduceEqDiff] at hk <;> simp only [compO] at hr
  case more m xs => cases m <;> simp at hk
  case alloc e sz z =>
    obtain ⟨m, h1, h2⟩ := hp _ hr
    simp only [Option.some.injEq] at h1; subst h1
    refine ⟨_, rfl, fun id hid => ?_⟩
    have := addRow_rel (d' := none) h (VRelL.one (noid_refl (R := R) z hok.2)) (.inl ⟨rfl, rfl⟩) h2 hid
    simpa [delO] using this
  case box e sz x =>
    obtain ⟨m, h1, h2⟩ := hp _ hr
    have hv := ev_rel h.slot (hx x (by simp [VOp.xs]))
    unfold boxQ at h1
    rw [bcase] at h1
    split at h1
    · rename_i hc
      simp only [Bool.and_eq_true, Nat.beq_eq] at hc
      simp only [Option.some.injEq] at h1; subst h1
      refine ⟨fun id => (.ptr id 0 0, upd st.σ id ⟨e, sz, [x.ev st.s]⟩), ?_, fun id hid => ?_⟩
      · simp only [eff]
        rw [if_pos ⟨by rw [hv.cells.length]; exact hc.1, by rw [hv.stays]; exact hc.2⟩]
      · have := addRow_rel (d' := none) h (VRelL.one hv) (.inl ⟨rfl, rfl⟩) h2 hid
        simpa [delO] using this
    · cases h1
  case appz => simp [pureB, vpure] at hr
  case mk e sz bytes z x =>
    obtain ⟨m, h1, h2⟩ := hp _ hr
    have hv := ev_rel h.slot (hx x (by simp [VOp.xs]))
    unfold mkQ at h1
    split at h1
    · rename_i kk mm hxe
      rw [hxe] at hv
      simp only [VRel] at hv
      split at h1
      · split at h1
        · rename_i j hj
          rw [bcase] at h1
          split at h1
          · rename_i hc
            simp only [Option.some.injEq] at h1; subst h1
            have hmj : mm = (j : Int) := by
              cases mm <;> simp only [natQ, Option.some.injEq, reduceCtorEq] at hj
              subst hj; rfl
            subst hmj
            refine ⟨fun id => (.own id 0 j, upd st.σ id ⟨e, sz, List.replicate j z⟩), ?_, fun id hid => ?_⟩
            · simp only [eff]
              rw [hv]
              have hc' : j * (bytes + 1) ≤ 140737488355328 := Nat.le_of_ble_eq_true hc
              simp only [Int.toNat_natCast]
              rw [if_pos ⟨by omega, hc'⟩]
            · have := addRow_rel (d' := none) h (VRelL.replicate (noid_refl (R := R) z hok.2) j) (.inl ⟨rfl, rfl⟩) h2 hid
              simpa [delO] using this
          · cases h1
        · cases h1
      · cases h1
    · cases h1
  case bslice e sz xs =>
    obtain ⟨m, h1, h2⟩ := hp _ hr
    have hv := evs_rel h.slot hok.1
    simp only [VOp.xs] at hv
    unfold bsliceQ at h1
    rw [bcase] at h1
    split at h1
    · rename_i hc
      simp only [Option.some.injEq] at h1; subst h1
      refine ⟨fun id => (.own id 0 xs.length, upd st.σ id ⟨e, sz, xs.map (·.ev st.s)⟩), ?_, fun id hid => ?_⟩
      · simp only [eff]
        rw [if_pos]
        rw [List.all_eq_true]
        intro y hy
        rw [List.mem_map] at hy
        obtain ⟨x, hxx, rfl⟩ := hy
        have hvx := ev_rel h.slot (hx x (by simp [VOp.xs, hxx]))
        have := List.all_eq_true.1 hc (x.ev cs.sf) (List.mem_map.2 ⟨x, hxx, rfl⟩)
        simp only [Bool.and_eq_true, Nat.beq_eq] at this
        simp [hvx.cells.length, hvx.stays, this]
      · have := addRow_rel (d' := none) h hv (.inl ⟨rfl, rfl⟩) h2 hid
        simpa [delO] using this
    · cases h1
  case append e sz bytes xa xb =>
    obtain ⟨m, h1, h2⟩ := hp _ hr
    have ha := ev_rel h.slot (hx xa (by simp [VOp.xs]))
    have hb := ev_rel h.slot (hx xb (by simp [VOp.xs]))
    unfold appendQ at h1
    split at h1
    · rename_i base idA src e1 e2
      obtain ⟨base', d', g1, g2, g3⟩ := dstRows_rel h.mem.live ha e1
      obtain ⟨src', g4, g5⟩ := srcRows_rel h.mem.live hb e2
      rw [bcase] at h1
      split at h1
      · rename_i hc
        simp only [Option.some.injEq] at h1; subst h1
        refine ⟨fun id => (.own id 0 (base'.length + src'.length), upd (delO st.σ d') id ⟨e, sz, base' ++ src'⟩), ?_, fun id hid => ?_⟩
        · simp only [eff, g1, g4]
          rw [if_pos (by rw [g2.length, g5.length]; exact Nat.le_of_ble_eq_true hc)]
        · have := addRow_rel h (g2.append g5) g3 h2 hid
          simpa [g2.length, g5.length] using this
      · cases h1
    · cases h1
theorem setRowV_rel {r r' x x' q : V} {k sz : Nat} (hr : VRel R r r') (hx : VRel R x x') (h : setRowV r k sz x = some q) : ∃ q', setRowV r' k sz x' = some q' ∧ VRel R q q' := by
  unfold setRowV at h
  split at h
  · rename_i hc
    have hc' : x'.cells.length = sz ∧ x'.stays = true := ⟨by rw [hx.cells.length]; exact hc.1, by rw [hx.stays]; exact hc.2⟩
    split at h
    · rename_i hd
      simp only [Option.some.injEq] at h; subst h
      refine ⟨x', ?_, hx⟩
      unfold setRowV
      rw [if_pos hc', if_pos ⟨hd.1, by rw [hr.cells.length]; exact hd.2⟩]
    · rename_i hd
      split at h
      · rename_i he
        simp only [Option.some.injEq] at h; subst h
        refine ⟨_, ?_, VRel.agg (((hr.cells.take k).append hx.cells).append (hr.cells.drop (k + sz)))⟩
        unfold setRowV
        rw [if_pos hc', if_neg (by rw [hr.cells.length]; exact hd), if_pos (by rw [hr.cells.length]; exact he)]
      · cases h
  · cases h
theorem store_case {dst : Option Nat} {sz : Nat} {xa xv : VX} {call : CallT} {cs cs' : CS} {st : St} (hok : okOp (.store sz xa xv) = true) (h : SRel K fl R cs st)
    (hr : (storeB dst sz xa xv).f call fl cs = some cs') : ∃ σ', storeS st.σ sz (xa.ev st.s) (xv.ev st.s) = some σ' ∧ SRel K fl R cs' ⟨putO st.s dst (.tup []), σ'⟩ := by
  simp only [okOp, VOp.xs, List.all_cons, List.all_nil, Bool.and_true, Bool.and_eq_true] at hok
  have ha := ev_rel h.slot hok.1
  have hv := ev_rel h.slot hok.2
  simp only [storeB, storeIn] at hr
  split at hr
  · rename_i id i0 c hptr
    rw [hptr] at ha
    simp only [VRel] at ha
    obtain ⟨a, ha1, ha2⟩ := ha
    rw [brec] at hr
    split at hr
    · rename_i hf
      split at hr
      · rename_i ob hob
        have hob' : stF cs.σ id = some ob := hob
        obtain ⟨rows', h1, h2⟩ := h.mem.live _ _ _ ha2 hob'
        split at hr
        · rename_i r hrr
          obtain ⟨r', h3, h4⟩ := h2.get hrr
          split at hr
          · rename_i q hq
            obtain ⟨q', h5, h6⟩ := setRowV_rel h4 hv hq
            simp only [Option.some.injEq] at hr
            subst hr
            refine ⟨upd st.σ a ⟨ob.elem, ob.sz, rows'.set i0 q'⟩, ?_, ?_⟩
            · simp only [storeS, ha1, h1, h3, h5]
            · have hm := h.mem.write ha2 hob' (Nat.le_of_ble_eq_true hf) (h2.set i0 h6)
              have hS : SRel K fl R ⟨cs.s, setP none (some ⟨ob.elem, ob.sz, ob.rows.set i0 q⟩) id cs.σ, cs.nxt⟩ ⟨st.s, upd st.σ a ⟨ob.elem, ob.sz, rows'.set i0 q'⟩⟩ :=
                ⟨h.slot, by simp only [stF_set]; exact hm⟩
              exact hS.put VRel.nilt
          · cases hr
        · cases hr
      · cases hr
    · cases hr
  · cases hr
end Go.Vc
namespace Go.Vc
variable {P : Program} {n : Nat}
def Le (R R' : Nat → Nat → Prop) : Prop := ∀ a b, R a b → R' a b
theorem Le.refl (R : Nat → Nat → Prop) : Le R R := fun _ _ h => h
theorem Le.trans {R R' R'' : Nat → Nat → Prop} (h : Le R R') (h' : Le R' R'') : Le R R'' := fun a b g => h' a b (h a b g)
def CallOk (P : Program) (call : CallT) : Prop := ∀ g args σc nxt fl r, call g args σc nxt fl = some r → ∀ (K : Store) (R : Nat → Nat → Prop) (σ : Store) (args' : List V),
  MRel K fl R (stF σc) nxt σ → VRelL R args args' → Contract P g args' σ fun v σ' => ∃ R', Le R R' ∧ VRel R' r.v v ∧ MRel K fl R' (stF r.σ) r.nxt σ'
theorem Contract.drop {f : FuncId} {args : List V} {σ : Store} {Post Post' : V → Store → Prop} (h : Contract P f args σ Post)
    (hp : ∀ r σ', Post r σ' → ∃ σ0, SubStore σ0 σ' ∧ Post' r σ0) : Contract P f args σ Post' := by
  refine ⟨h.1, fun μ w vals hs hr => (h.2 μ w vals hs hr).mono ?_⟩
  rintro e w' ⟨r, σ', μ', val, h1, h2, h3, h4, h5⟩
  obtain ⟨σ0, h6, h7⟩ := hp r σ' h2
  exact ⟨r, σ0, μ', val, h1, h7, h3, h4.drop h6, Wk.refl h6 r μ' _ _ _ val h4 h5⟩
section
variable {call : CallT} {K : Store} {fl : Nat} {R : Nat → Nat → Prop} {cs cs' : CS} {st : St} {Q : St → Prop} {k : List It}
theorem compI_split {draw : Bool} {i : VIns} (hok : okIns i = true) (h : SRel K fl R cs st) (hr : (compI draw i).f call fl cs = some cs') :
    (wantV st.s i.g = some true ∧ (compO draw i.dst i.op).f call fl cs = some cs') ∨ (wantV st.s i.g = some false ∧ cs' = cs.put i.dst (.tup [])) := by
  simp only [okIns, Bool.and_eq_true] at hok
  unfold compI at hr
  split at hr
  · rename_i hg
    exact .inl ⟨by simp [hg, wantV], hr⟩
  · rename_i x b hg
    have hx := hok.2
    simp only [hg] at hx
    have hv := ev_rel h.slot hx
    simp only [guardB] at hr
    split at hr
    · rename_i c hc
      rw [hc, VRel.bool_iff] at hv
      rw [brec] at hr
      split at hr
      · rename_i hcb
        simp only [Option.some.injEq] at hr
        refine .inr ⟨?_, hr.symm⟩
        simp only [hg, wantV, hv]
        cases c <;> cases b <;> simp_all
      · rename_i hcb
        refine .inl ⟨?_, hr⟩
        simp only [hg, wantV, hv]
        cases c <;> cases b <;> simp_all
    · rename_i hc
      rw [hc] at hv
      simp only [VRel, VRelL] at hv
      obtain ⟨c', hv, rfl⟩ := hv
      simp only [Option.some.injEq] at hr
      exact .inr ⟨by simp only [hg, wantV, hv], hr.symm⟩
    · rename_i hc
      rw [hc, VRel.int_iff] at hv
      simp only [Option.some.injEq] at hr
      exact .inr ⟨by simp only [hg, wantV, hv], hr.symm⟩
    · cases hr
theorem bad_not {draw : Bool} {dst : Option Nat} {op : VOp} (h : op = .bad ∨ (∃ b x, op = .rngS b x) ∨ (∃ x, op = .nxtS x) ∨ ∃ m xs, op = .more m xs ∧ okind op = 4) (hr : (compO draw dst op).f call fl cs = some cs') : False := by
  rcases h with rfl | ⟨b, x, rfl⟩ | ⟨x, rfl⟩ | ⟨m, xs, rfl, hk⟩
  case inr.inr.inr => cases m <;> simp [okind] at hk <;> simp [compO, pureB, vpure] at hr
  all_goals simp [compO, pureB, vpure] at hr
theorem okind_cases (op : VOp) : okind op = 0 ∨ (∃ fx xs, op = .call fx xs) ∨ (∃ sz a x, op = .store sz a x) ∨ okind op = 3 ∨ (∃ sz z x, op = .clear sz z x) ∨ (op = .bad ∨ (∃ b x, op = .rngS b x) ∨ (∃ x, op = .nxtS x) ∨ ∃ m xs, op = .more m xs ∧ okind op = 4) := by
  cases op
  case more m xs => cases m <;> simp [okind]
  all_goals simp [okind]
theorem ins_run (hc : CallOk P call) {i : VIns} {l : List VIns} (hok : okIns i = true) (h : SRel K fl R cs st) (hr : (compI false i).f call fl cs = some cs')
    (hk : ∀ R' st', Le R R' → SRel K fl R' cs' st' → Runs P n (.ops l :: k) st' Q) : Runs P n (.ops (i :: l) :: k) st Q := by
  have hop : okOp i.op = true := by simp only [okIns, Bool.and_eq_true] at hok; exact hok.1
  rcases compI_split hok h hr with ⟨hw, hr⟩ | ⟨hw, rfl⟩
  · rcases okind_cases i.op with h0 | ⟨fx, xs, h0⟩ | ⟨sz, a, x, h0⟩ | h0 | ⟨sz, z, x, h0⟩ | h0
    · obtain ⟨v', h1, h2, h3⟩ := pure_case h0 hop h hr
      exact Runs.pure hw h1 h2 (hk R _ (Le.refl R) h3)
    · rw [h0] at hr hop
      simp only [compO, callB] at hr
      simp only [okOp, VOp.xs, List.all_cons, Bool.and_eq_true] at hop
      split at hr
      · rename_i f caps hf
        have hfx := ev_rel h.slot hop.1.1
        rw [hf] at hfx
        simp only [VRel] at hfx
        obtain ⟨caps', hf', hcaps⟩ := hfx
        generalize hcl : call f (xs.map (·.ev cs.sf) ++ caps) cs.σ cs.nxt fl = r at hr
        cases r with
        | none => simp [callIn] at hr
        | some r =>
          simp only [callIn, Option.some.injEq] at hr
          refine Runs.call hw h0 hf' (hc _ _ _ _ _ _ hcl K R st.σ _ h.mem ((evs_rel h.slot hop.1.2).append hcaps)) ?_
          rintro v σ' ⟨R', hle, hv, hm⟩
          have hS : SRel K fl R' ⟨cs.s, r.σ, r.nxt⟩ ⟨st.s, σ'⟩ := ⟨fun j => VRel.mono hle _ _ (h.slot j), hm⟩
          exact hk R' _ hle (hr ▸ hS.put hv)
      · cases hr
    · rw [h0] at hr hop
      obtain ⟨σ', h1, h2⟩ := store_case hop h hr
      exact Runs.storeS hw h0 h1 (hk R _ (Le.refl R) h2)
    · obtain ⟨g', h1, h2⟩ := row_case h0 hop h hr
      refine Runs.eff hw h1 fun id hid => ?_
      obtain ⟨R', h3, h4⟩ := h2 id hid
      exact hk R' _ h3 h4
    · rw [h0] at hr hop
      simp only [compO, clearB, clearIn] at hr
      simp only [okOp, VOp.xs, List.all_cons, List.all_nil, Bool.and_true, Bool.and_eq_true] at hop
      have hx := ev_rel h.slot hop.1
      split at hr
      · rename_i id off len hid
        rw [hid] at hx
        simp only [VRel] at hx
        obtain ⟨a, ha1, ha2⟩ := hx
        rw [brec] at hr
        split at hr
        · rename_i hf
          split at hr
          · rename_i ob hob
            have hob' : stF cs.σ id = some ob := hob
            obtain ⟨rows', g1, g2⟩ := h.mem.live _ _ _ ha2 hob'
            rw [brec] at hr
            split at hr
            · rename_i hcc
              simp only [Bool.and_eq_true, Nat.beq_eq, Nat.ble_eq] at hcc
              simp only [Option.some.injEq] at hr
              refine Runs.clear hw h0 ha1 g1 hcc.1 (by rw [g2.length]; exact hcc.2) ?_
              have hm := h.mem.write ha2 hob' (Nat.le_of_ble_eq_true hf) (((g2.take off).append (VRelL.replicate (noid_refl (R := R) z hop.2) len)).append (g2.drop (off + len)))
              have hS : SRel K fl R ⟨cs.s, setP none (some ⟨ob.elem, ob.sz, ob.rows.take off ++ List.replicate len z ++ ob.rows.drop (off + len)⟩) id cs.σ, cs.nxt⟩
                  ⟨st.s, upd st.σ a ⟨ob.elem, ob.sz, rows'.take off ++ List.replicate len z ++ rows'.drop (off + len)⟩⟩ := ⟨h.slot, by simp only [stF_set]; exact hm⟩
              exact hk R _ (Le.refl R) (hr ▸ hS.put VRel.nilt)
            · cases hr
          · cases hr
        · cases hr
      · cases hr
    · exact (bad_not h0 hr).elim
  · exact Runs.skipIns hw (hk R _ (Le.refl R) (h.put VRel.nilt))
end
def Then (P : Program) (n : Nat) (K : Store) (fl : Nat) (R : Nat → Nat → Prop) (k : List It) (Q : St → Prop) : Out → Prop
  | .nx cs => ∀ R' st, Le R R' → SRel K fl R' cs st → Runs P n k st Q
  | .ex id cs => ∃ k', popTo id k = some k' ∧ ∀ R' st, Le R R' → SRel K fl R' cs st → Runs P n k' st Q
  | .rt cs => ∀ R' st, Le R R' → SRel K fl R' cs st → Q st
  | .bad => False
theorem Then.le {K : Store} {fl : Nat} {R R' : Nat → Nat → Prop} {k : List It} {Q : St → Prop} {o : Out} (h : Then P n K fl R k Q o) (hle : Le R R') : Then P n K fl R' k Q o := by
  cases o
  case bad => exact h
  case ex => obtain ⟨k', h1, h2⟩ := h; exact ⟨k', h1, fun R'' st h3 h4 => h2 R'' st (hle.trans h3) h4⟩
  all_goals exact fun R'' st h3 h4 => h R'' st (hle.trans h3) h4
theorem ofL_get (i : Nat) : ∀ (l : List V) (k : Nat) (t : Tr V), getP (.tup []) i (Tr.ofL l k t) = if k ≤ i ∧ i < k + l.length then l.getD (i - k) (.tup []) else getP (.tup []) i t
  | [], k, t => by simp [Tr.ofL]; intro h1 h2; omega
  | v :: l, k, t => by
    rw [Tr.ofL, ofL_get i l (k + 1), getP_set]
    simp only [List.length_cons]
    by_cases h1 : i = k
    · subst h1
      rw [if_neg (by omega), if_pos rfl, if_pos (by omega)]
      simp
    · by_cases h2 : k + 1 ≤ i ∧ i < k + 1 + l.length
      · rw [if_pos h2, if_pos (by omega), show i - k = (i - (k + 1)) + 1 by omega]
        simp
      · rw [if_neg h2, if_neg h1, if_neg (by omega)]
theorem resOne_rel {K : Store} {fl : Nat} {R : Nat → Nat → Prop} {cs : CS} {st : St} (h : SRel K fl R cs st) {r : VR} (hok : okRes r = true) {v : V} (hv : resOne ⟨cs.sf, stF cs.σ⟩ r = some v) :
    ∃ v', resOne st r = some v' ∧ VRel R v v' := by
  cases r <;> simp only [resOne, reduceCtorEq, Option.some.injEq] at hv ⊢
  case tmp x => subst hv; exact ⟨_, rfl, ev_rel h.slot hok⟩
  case cell agg sz x => exact loadV_rel h.mem.live (ev_rel h.slot hok) hv
theorem resAll_rel {K : Store} {fl : Nat} {R : Nat → Nat → Prop} {cs : CS} {st : St} (h : SRel K fl R cs st) : ∀ {l : List VR}, l.all okRes = true → ∀ {vs : List V}, resAll ⟨cs.sf, stF cs.σ⟩ l = some vs →
    ∃ vs', resAll st l = some vs' ∧ VRelL R vs vs'
  | [], _, vs, hv => by simp only [resAll, Option.some.injEq] at hv; subst hv; exact ⟨[], rfl, by simp [VRelL]⟩
  | r :: l, hok, vs, hv => by
    simp only [List.all_cons, Bool.and_eq_true] at hok
    simp only [resAll] at hv
    split at hv
    · rename_i v h1
      split at hv
      · rename_i us h2
        simp only [Option.some.injEq] at hv; subst hv
        obtain ⟨v', g1, g2⟩ := resOne_rel h hok.1 h1
        obtain ⟨us', g3, g4⟩ := resAll_rel h hok.2 h2
        exact ⟨v' :: us', by simp [resAll, g1, g3], VRelL.cons_iff.2 ⟨v', us', rfl, g2, g4⟩⟩
      · cases hv
    · cases hv
theorem resV_rel {K : Store} {fl : Nat} {R : Nat → Nat → Prop} {cs : CS} {st : St} (h : SRel K fl R cs st) {l : List VR} (hok : l.all okRes = true) {v : V} (hv : resV ⟨cs.sf, stF cs.σ⟩ l = some v) :
    ∃ v', resV st l = some v' ∧ VRel R v v' := by
  unfold resV at hv
  cases hr : resAll ⟨cs.sf, stF cs.σ⟩ l with
  | none => simp [hr] at hv
  | some vs =>
    obtain ⟨vs', g1, g2⟩ := resAll_rel h hok hr
    rw [hr] at hv
    unfold resV
    rw [g1]
    match vs, hv, g2 with
    | [], hv, g2 =>
      rw [VRelL.nil_iff] at g2; subst g2
      simp only [Option.some.injEq] at hv; subst hv
      exact ⟨_, rfl, by simp [VRel, VRelL]⟩
    | [u], hv, g2 =>
      obtain ⟨x, xs, rfl, g3, g4⟩ := VRelL.cons_iff.1 g2
      rw [VRelL.nil_iff] at g4; subst g4
      simp only [Option.some.injEq] at hv; subst hv
      exact ⟨_, rfl, g3⟩
    | u1 :: u2 :: us, hv, g2 =>
      obtain ⟨x, xs, rfl, g3, g4⟩ := VRelL.cons_iff.1 g2
      obtain ⟨y, ys, rfl, g5, g6⟩ := VRelL.cons_iff.1 g4
      simp only [Option.some.injEq] at hv; subst hv
      exact ⟨_, rfl, by simp only [VRel]; exact ⟨_, rfl, g2⟩⟩
end Go.Vc
namespace Go.Vc
theorem eqQ_iff {a b : Int} (h : eqQ a b = true) : a = b := by
  cases a <;> cases b <;> simp only [eqQ, Bool.false_eq_true] at h
  · rw [Nat.eq_of_beq_eq_true h]
  · rw [Nat.eq_of_beq_eq_true h]
end Go.Vc
namespace Go.Vc
open Go.RowKit
variable {P : Program} {n : Nat} {st : St} {Q : St → Prop} {k : List It} {μ : Mu} {w : World}
theorem cop_inv {o : Op} {tbl : List (TypeId × FuncId)} {xs : List VX} (h : cop P n o = .more (.inv tbl) xs) : ∃ r name args argTypes, o = .call { callee := .invoke r name, args := args, argTypes := argTypes } ∧
    tbl = invTbl P name ∧ xs = cx n r :: args.toList.map (cx n) := by
  cases o
  case call c =>
    obtain ⟨callee, args, argTypes⟩ := c
    cases callee
    case value => simp [cop] at h
    case invoke r name =>
      simp only [cop, VOp.more.injEq, MOp.inv.injEq] at h
      exact ⟨r, name, args, argTypes, rfl, h.1.symm, h.2.symm⟩
    case builtin b => cases b <;> (simp only [cop, nilB] at h; (repeat' split at h) <;> cases h)
  case unOp op t x => cases op <;> simp only [cop, nilB] at h <;> cases h
  case makeFunc f a b => cases f <;> simp only [cop, nilB] at h <;> (repeat' split at h) <;> cases h
  all_goals (simp only [cop, nilB] at h; (repeat' split at h) <;> cases h)
theorem invTbl_get {name : String} {t : TypeId} {f : FuncId} (h : (invTbl P name).lookup t = some f) : invOf P name t = some f ∧ t < P.types.size := by
  unfold invTbl at h
  have key : ∀ l : List Nat, (l.filterMap fun t => (invOf P name t).map fun f => (t, f)).lookup t = some f → invOf P name t = some f ∧ t ∈ l := by
    intro l
    induction l with
    | nil => intro h; simp at h
    | cons a l ih =>
      intro h
      rw [List.filterMap_cons] at h
      cases ha : invOf P name a with
      | none =>
        rw [ha] at h
        simp only [Option.map_none] at h
        obtain ⟨h1, h2⟩ := ih h
        exact ⟨h1, List.mem_cons_of_mem _ h2⟩
      | some g =>
        rw [ha] at h
        simp only [Option.map_some, List.lookup_cons] at h
        by_cases e : t = a
        · subst e
          simp at h
          subst h
          exact ⟨ha, by simp⟩
        · have : (t == a) = false := by simpa using e
          rw [this] at h
          obtain ⟨h1, h2⟩ := ih h
          exact ⟨h1, List.mem_cons_of_mem _ h2⟩
  obtain ⟨h1, h2⟩ := key _ h
  exact ⟨h1, by simpa using h2⟩
theorem run_method {name : String} {t : TypeId} {f : FuncId} (h : invOf P name t = some f) (fuel : Nat) (v : Value) : (method (fuel + 1) t v name).run P w = .ok (f, v) w := by
  unfold invOf at h
  cases hi : P.info? t with
  | none => rw [hi] at h; cases h
  | some i =>
    rw [hi] at h
    simp only at h
    cases hm : i.methods.find? (·.name == name) with
    | none => rw [hm] at h; cases h
    | some m =>
      rw [hm] at h
      simp only at h
      split at h
      · rename_i hp
        have hp' : m.path.toList = [] := by simpa using hp
        cases hf : m.func with
        | none => rw [hf] at h; simp at h
        | some fp =>
          obtain ⟨f0, pr⟩ := fp
          rw [hf] at h
          cases hu : P.underlying t with
          | none => rw [hu] at h; cases pr <;> simp at h
          | some d =>
            rw [hu] at h
            cases pr
            · cases d
              case pointer e => simp at h
              all_goals
                simp only [Option.some.injEq] at h
                subst h
                simp [method, typeInfo, hi, hm, follow, hp', hf, receiverAt, run_underlying hu, Place.get]
            · cases d
              case pointer e =>
                simp only [Option.some.injEq] at h
                subst h
                simp [method, typeInfo, hi, hm, follow, hp', hf, receiverAt, run_underlying hu, Place.get]
              all_goals simp at h
      · cases h
theorem Runs.inv {i : VIns} {l : List VIns} {tbl : List (TypeId × FuncId)} {rx : VX} {xs : List VX} (hw : wantV st.s i.g = some true) (ho : i.op = .more (.inv tbl) (rx :: xs)) {t : TypeId} {v : V} (hr : rx.ev st.s = .iface t v)
    {f : FuncId} (hf : tbl.lookup t = some f) {Post : V → Store → Prop} (hc : Contract P f (v :: xs.map (·.ev st.s)) st.σ Post)
    (h : ∀ r σ', Post r σ' → Runs P n (.ops l :: k) ⟨putO st.s i.dst r, σ'⟩ Q) : Runs P n (.ops (i :: l) :: k) st Q := by
  refine Runs.ins (by rw [ho]; simp) hw fun F hn μ a w o all hi hs next Q' hnext => ?_
  subst hn
  obtain ⟨hop, hd⟩ := cins_op hi
  rw [ho] at hop
  obtain ⟨r0, name, args, argTypes, g1, rfl, g2⟩ := cop_inv hop
  simp only [List.cons.injEq] at g2
  obtain ⟨rfl, rfl⟩ := g2
  obtain ⟨q1, q2⟩ := invTbl_get hf
  have hfr := rep_cx hs r0
  rw [hr] at hfr
  simp only [Rep] at hfr
  obtain ⟨y, hy, hry⟩ := hfr
  have hargs : RepAll μ (Owned μ st.σ) w (v :: (args.toList.map (cx F.n)).map (·.ev st.s)) (y :: args.toList.map a.eval) := by
    simp only [RepAll]; exact ⟨y, _, rfl, hry, rep_cxs hs args.toList⟩
  have hrun : (execOp a.eval o).run P w = .ok (.enter f ((y :: args.toList.map a.eval).toArray)) w := by
    unfold execOp
    rw [g1]
    have hpos : 0 < P.types.size := Nat.lt_of_le_of_lt (Nat.zero_le _) q2
    obtain ⟨fu, hfu⟩ : ∃ fu, P.types.size + Made.depth = fu + 1 := ⟨P.types.size + Made.depth - 1, by omega⟩
    have hprog : (program : Sem Program).run P w = .ok P w := rfl
    have harr : (#[Value.iface t y] ++ args.map a.eval).extract 1 (#[Value.iface t y] ++ args.map a.eval).size = args.map a.eval := by
      apply Array.ext'
      simp [List.take_of_length_le]
    have hget : (#[Value.iface t y] ++ args.map a.eval)[0]? = some (.iface t y) := by
      rw [Array.getElem?_append_left (by simp)]; rfl
    simp only [resolve, Sem.run_bind, Sem.run_pure, Result.andThen_ok, invoke, hy, hget, harr, callMethod, hprog, hfu, run_method q1]
    have hen := run_callFunc (w := w) hc.1 (#[y] ++ args.map a.eval)
    rw [hen]
    congr 2
    apply Array.ext'
    simp
  unfold Oper.wp
  rw [hrun]
  simp only [Oper.upon]
  have hsat : Sat w (Owned μ st.σ) μ st.σ w := hs.sat.here
  refine (hc.2 μ w _ hsat hargs).mono ?_
  rintro e w' ⟨r, σ', μ', val, rfl, hp, hle, hs', hr'⟩
  obtain ⟨hfin, hkeep⟩ := hs.sat.compose hs'
  refine hnext _ _ _ ⟨μ', ?_⟩ (h r σ' hp)
  rw [← hd]
  exact hs.step hfin hle hkeep hs'.size hr'
end Go.Vc
namespace Go.Vc
variable {P : Program} {n : Nat} {st : St} {Q : St → Prop} {k : List It}
def TC (P : Program) (i : VIns) (x : St) (K : St → Prop) : Prop := T P i x K ∨ (wantV x.s i.g = some true ∧ match i.op with
  | .call fx xs => ∃ f caps Post, fx.ev x.s = .fn f caps ∧ Contract P f (xs.map (·.ev x.s) ++ caps) x.σ Post ∧ ∀ r σ', Post r σ' → K ⟨putO x.s i.dst r, σ'⟩
  | _ => False)
theorem TC.mono {i : VIns} {x : St} {K K' : St → Prop} (hk : ∀ x, K x → K' x) (h : TC P i x K) : TC P i x K' := by
  rcases h with h | ⟨h1, h2⟩
  · exact .inl (h.mono hk)
  · refine .inr ⟨h1, ?_⟩
    split at h2
    · obtain ⟨f, caps, Post, g1, g2, g3⟩ := h2
      exact ⟨f, caps, Post, g1, g2, fun r σ' hp => hk _ (g3 r σ' hp)⟩
    · exact h2.elim
theorem TC_sound {F : Fr} (hn : F.n = n) {o : Oper} {all : Array Oper} {x : St} {K : St → Prop} {a : Act} {w : World} (h : TC P (cins P n all o) x K) (hs : SatF F x a w)
    {next : Act → World → Prop} {Q' : Exit → Act → World → Prop} (hnext : ∀ x' a' w', SatF F x' a' w' → K x' → next a' w') :
    if Region.wanted o (yielded all a.tmps) then cop P n o.op ≠ .bad ∧ o.wp P a w next Q' else next (a.put o.dst undef) w := by
  rcases h with h | ⟨hw, h⟩
  · exact T_sound hn h hs hnext
  subst hn
  obtain ⟨μ, hs⟩ := hs
  have hwant := want_of (P := P) hs all o hw
  rw [hwant]
  simp only [if_true]
  have hdst : (cins P F.n all o).dst = o.dst.filter (· < F.n) := rfl
  have hopc : (cins P F.n all o).op = cop P F.n o.op := rfl
  rw [hdst, hopc] at h
  split at h
  · rename_i fx xs hop
    refine ⟨fun e => ?_, ?_⟩
    · rw [hop] at e; cases e
    obtain ⟨f, caps, Post, h1, h2, h3⟩ := h
    obtain ⟨f0, args, argTypes, g1, rfl, rfl⟩ := cop_call hop
    refine call_sound hs g1 h1 h2 fun r σ' hp a' w' hs' => ?_
    exact hnext _ a' w' hs' (h3 r σ' hp)
  · exact h.elim
def TnC (P : Program) (n : Nat) (ops : Array Oper) (i : Nat) (x : St) (K : St → Prop) : Prop := match ops[i]? with
  | some o => TC P (cins P n ops o) x K
  | none => K x
def wpAnyTC (P : Program) (n : Nat) (ops : Array Oper) (Q : St → Prop) : Nat → Array Bool → St → Prop
  | 0, listed, x => Region.ready .any ops listed = [] ∧ Q x
  | f + 1, listed, x => (Region.ready .any ops listed = [] → Q x) ∧ ∀ i ∈ Region.ready .any ops listed, TnC P n ops i x (wpAnyTC P n ops Q f (listed.setIfInBounds i true))
theorem wpAny_of_TC {F : Fr} (hn : F.n = n) {ops : Array Oper} {Q : St → Prop} {Q' : Exit → Act → World → Prop} (hQ : ∀ x a w, SatF F x a w → Q x → Q' .normal a w) :
    ∀ (f : Nat) (listed : Array Bool) (x : St) (a : Act) (w : World), SatF F x a w → wpAnyTC P n ops Q f listed x → wpAnyIn F.fence 0 P .any ops Q' f listed a w
  | 0, _, _, _, _, hs, h => ⟨h.1, hQ _ _ _ hs h.2⟩
  | f + 1, listed, x, a, w, hs, h => by
    refine ⟨fun h0 => hQ _ _ _ hs (h.1 h0), fun i hi => ?_⟩
    have h1 := h.2 i hi
    unfold TnC at h1
    unfold wpOpIn
    cases ho : ops[i]? with
    | none =>
      simp only [ho] at h1
      exact wpAny_of_TC hn hQ f _ x a w hs h1
    | some o =>
      simp only [ho] at h1
      have h2 := TC_sound (Q' := Q') hn h1 hs fun x' a' w' hs' hk => wpAny_of_TC hn hQ f _ x' a' w' hs' hk
      by_cases hw : Region.wanted o (yielded ops a.tmps) = true
      · rw [if_pos hw] at h2
        simp only [hw, if_true]
        exact opIn (cop_defer h2.1) h2.2
      · rw [if_neg hw] at h2
        simp only [hw]
        exact ⟨fun _ _ => trivial, h2⟩
def allVC (P : Program) (l : List VIns) (rec : List Nat → St → Prop) (listed : List Nat) (x : St) : List Nat → Prop
  | [] => True
  | i :: is => (match l[i]? with
      | some ins => TC P ins x (rec (i :: listed))
      | none => False) ∧ allVC P l rec listed x is
def anyVC (P : Program) (l : List VIns) (deps : List (List Nat)) (Q : St → Prop) : Nat → List Nat → St → Prop
  | 0, listed, x => readyV deps listed = [] ∧ Q x
  | f + 1, listed, x => match readyV deps listed with
      | [] => Q x
      | i :: is => allVC P l (anyVC P l deps Q f) listed x (i :: is)
theorem allV_memC {l : List VIns} {rec : List Nat → St → Prop} {listed : List Nat} {x : St} : ∀ {is : List Nat}, allVC P l rec listed x is → ∀ i ∈ is, ∃ ins, l[i]? = some ins ∧ TC P ins x (rec (i :: listed))
  | [], _, _, hi => by cases hi
  | j :: is, h, i, hi => by
    obtain ⟨h1, h2⟩ := h
    rcases List.mem_cons.1 hi with rfl | hi
    · cases hl : l[i]? with
      | none => rw [hl] at h1; exact h1.elim
      | some ins => rw [hl] at h1; exact ⟨ins, rfl, h1⟩
    · exact allV_memC h2 i hi
theorem wpAnyT_of_anyVC {ops : Array Oper} {Q : St → Prop} : ∀ (f : Nat) (arr : Array Bool) (listed : List Nat) (x : St), arr.size = ops.size → (∀ i, i < ops.size → arr.getD i true = listed.contains i) →
    (∀ i ∈ listed, i < ops.size) → anyVC P (ops.toList.map (cins P n ops)) (depsOf ops) Q f listed x → wpAnyTC P n ops Q f arr x
  | 0, arr, listed, x, hs, hl, ho, h => ⟨by rw [readyV_eq hs hl ho]; exact h.1, h.2⟩
  | f + 1, arr, listed, x, hs, hl, ho, h => by
    have hr := readyV_eq hs hl ho
    unfold anyVC at h
    refine ⟨fun h0 => ?_, fun i hi => ?_⟩
    · rw [hr] at h0
      rw [h0] at h
      exact h
    · rw [hr] at hi
      have hlt : i < ops.size := by
        have := (List.mem_filter.1 hi).1
        simpa [depsOf] using this
      have hall : allVC P (ops.toList.map (cins P n ops)) (anyVC P (ops.toList.map (cins P n ops)) (depsOf ops) Q f) listed x (readyV (depsOf ops) listed) := by
        cases hrr : readyV (depsOf ops) listed with
        | nil => exact trivial
        | cons j js => rw [hrr] at h; exact h
      obtain ⟨ins, h1, h2⟩ := allV_memC hall i hi
      have h3 : ops[i]? = some ops[i] := Array.getElem?_eq_getElem hlt
      have h4 : ins = cins P n ops ops[i] := by simpa [hlt] using h1.symm
      unfold TnC
      simp only [h3]
      rw [← h4]
      refine h2.mono fun x' hx' => wpAnyT_of_anyVC f _ (i :: listed) x' (by simpa using hs) (fun j hj => ?_) (fun j hj => ?_) hx'
      · by_cases e : j = i
        · subst e
          rw [Array.getD_eq_getD_getElem?, Array.getElem?_setIfInBounds_self_of_lt (by omega)]
          simp
        · rw [Array.getD_eq_getD_getElem?, Array.getElem?_setIfInBounds_ne (fun e' => e e'.symm), ← Array.getD_eq_getD_getElem?, hl j hj]
          simp [e]
      · rcases List.mem_cons.1 hj with rfl | hj
        · exact hlt
        · exact ho j hj
theorem Runs.regAC (hm : P.follows .mixedOrders = true) {l : List VIns} {deps : List (List Nat)} (h : anyVC P l deps (fun x => Runs P n k x Q) l.length [] st) : Runs P n (.code (.regA l deps) :: k) st Q := by
  intro F hn kt hk a w hs
  obtain ⟨z, kt', rfl, hy, hk'⟩ := kt_cons hk
  obtain ⟨c0, rfl, hcc⟩ := it_code hy
  have hc0 : ∃ id ops, c0 = .region id ops true ∧ ops.toList.map (cins P n ops) = l ∧ depsOf ops = deps := by
    cases c0 <;> simp only [ccode, reduceCtorEq] at hcc
    rename_i id ops draw
    cases draw
    · simp at hcc
    · simp only [Bool.true_and] at hcc
      split at hcc
      · cases hcc
      split at hcc
      · simp only [VCode.regA.injEq] at hcc
        exact ⟨id, ops, rfl, hcc.1, hcc.2⟩
      · simp at hcc
  obtain ⟨id, ops, rfl, rfl, rfl⟩ := hc0
  have hs' : SatF F st a { w with drawn := w.drawn + 1 } := by
    obtain ⟨μ, hs⟩ := hs
    have hk : Keeps (Owned μ st.σ) (Owned μ st.σ) w { w with drawn := w.drawn + 1 } := fun _ _ h => ⟨h, rfl⟩
    refine ⟨μ, ⟨⟨hs.sat.size, hs.sat.os, hs.sat.tape, hs.sat.output, hs.sat.same, hs.sat.fin, hs.sat.inj, fun id o ho => ?_, hs.sat.fresh, hs.sat.glob⟩, hs.le, hs.size, hs.book.keep hk, fun i hi => ?_⟩⟩
    · exact (hs.sat.obj id o ho).mono (MuLe.refl μ) hk (Nat.le_refl _) (fun _ _ _ _ => rfl)
    · exact Rep.mono (MuLe.refl μ) hk (Nat.le_refl _) _ _ (hs.slot i hi)
  refine wpIn_region_any hm (wpAny_of_TC (Q := fun x => Runs P n k x Q) hn (fun x a w hs h => h F hn kt' hk' a w hs) _ _ _ _ _ hs' ?_)
  have := wpAnyT_of_anyVC (P := P) (n := n) (Q := fun x => Runs P n k x Q) (ops := ops) ops.size (Array.replicate ops.size false) [] st (by simp) (fun i hi => by
    rw [Array.getD_eq_getD_getElem?, Array.getElem?_replicate, if_pos hi]; simp) (by simp) (by simpa using h)
  exact this
theorem allV_ofC {l : List VIns} {rec : List Nat → St → Prop} {listed : List Nat} {x : St} : ∀ {is : List Nat}, (∀ i ∈ is, ∃ ins, l[i]? = some ins ∧ TC P ins x (rec (i :: listed))) → allVC P l rec listed x is
  | [], _ => trivial
  | j :: is, h => by
    obtain ⟨ins, h1, h2⟩ := h j (by simp)
    refine ⟨by rw [h1]; exact h2, allV_ofC fun i hi => h i (by simp [hi])⟩
end Go.Vc
namespace Go.Vc
def fzLQ (g : V → Option V) : List V → Option (List V)
  | [] => some []
  | v :: vs => match g v with
    | some u => (match fzLQ g vs with
      | some us => some (u :: us)
      | none => none)
    | none => none
def fzQ : Nat → Tr (Option Ob) → V → Option V
  | 0, _, _ => none
  | f + 1, σ, v => match v with
    | .own id off len => match getP none id σ with
      | some ob => @Bool.casesOn (fun _ => Option V) (Nat.ble (off + len) ob.rows.length) none ((fzLQ (fzQ f σ) ((ob.rows.drop off).take len)).map (.sl ob.sz))
      | none => none
    | .ptr id i k => @Bool.casesOn (fun _ => Option V) (Nat.beq k 0) none (match getP none id σ with
      | some ob => (match ob.rows[i]? with
        | some r => (fzQ f σ r).map .rp
        | none => none)
      | none => none)
    | .sl sz rows => (fzLQ (fzQ f σ) rows).map (.sl sz)
    | .agg cs => (fzLQ (fzQ f σ) cs).map .agg
    | .tup cs => (fzLQ (fzQ f σ) cs).map .tup
    | .fn g cs => (fzLQ (fzQ f σ) cs).map (.fn g)
    | .bm g cs => (fzLQ (fzQ f σ) cs).map (.bm g)
    | .iface t u => (fzQ f σ u).map (.iface t)
    | v => @Bool.casesOn (fun _ => Option V) v.noid none (some v)
theorem fzLQ_noid {g : V → Option V} (hg : ∀ v u, g v = some u → u.noid = true) : ∀ {l m : List V}, fzLQ g l = some m → noidL m = true
  | [], m, h => by simp only [fzLQ, Option.some.injEq] at h; subst h; rfl
  | v :: vs, m, h => by
    simp only [fzLQ] at h
    split at h
    · rename_i u hu
      split at h
      · rename_i us hus
        simp only [Option.some.injEq] at h; subst h
        simp only [noidL, hg v u hu, fzLQ_noid hg hus, Bool.and_self]
      · cases h
    · cases h
theorem fzLQ_id {g : V → Option V} (hg : ∀ v u, g v = some u → v.noid = true → u = v) : ∀ {l m : List V}, fzLQ g l = some m → noidL l = true → m = l
  | [], m, h, _ => by simp only [fzLQ, Option.some.injEq] at h; exact h.symm
  | v :: vs, m, h, hn => by
    simp only [noidL, Bool.and_eq_true] at hn
    simp only [fzLQ] at h
    split at h
    · rename_i u hu
      split at h
      · rename_i us hus
        simp only [Option.some.injEq] at h; subst h
        rw [hg v u hu hn.1, fzLQ_id hg hus hn.2]
      · cases h
    · cases h
theorem fzQ_noid : ∀ (f : Nat) (σ : Tr (Option Ob)) (v u : V), fzQ f σ v = some u → u.noid = true
  | 0, _, _, _, h => by simp [fzQ] at h
  | f + 1, σ, v, u, h => by
    have hL : ∀ {l m : List V}, fzLQ (fzQ f σ) l = some m → noidL m = true := fun h => fzLQ_noid (fzQ_noid f σ) h
    cases v <;> simp only [fzQ, bcase] at h
    case own id off len =>
      split at h
      · split at h
        · simp only [Option.map_eq_some_iff] at h
          obtain ⟨m, hm, rfl⟩ := h
          simpa [V.noid] using hL hm
        · cases h
      · cases h
    case ptr id i k =>
      split at h
      · split at h
        · split at h
          · simp only [Option.map_eq_some_iff] at h
            obtain ⟨m, hm, rfl⟩ := h
            simpa [V.noid] using fzQ_noid f σ _ _ hm
          · cases h
        · cases h
      · cases h
    case iface =>
      simp only [Option.map_eq_some_iff] at h
      obtain ⟨m, hm, rfl⟩ := h
      simpa [V.noid] using fzQ_noid f σ _ _ hm
    all_goals first
      | (simp only [Option.map_eq_some_iff] at h
         obtain ⟨m, hm, rfl⟩ := h
         simpa [V.noid] using hL hm)
      | (split at h
         · rename_i hn
           simp only [Option.some.injEq] at h; subst h; exact hn
         · cases h)
theorem fzQ_id : ∀ (f : Nat) (σ : Tr (Option Ob)) (v u : V), fzQ f σ v = some u → v.noid = true → u = v
  | 0, _, _, _, h, _ => by simp [fzQ] at h
  | f + 1, σ, v, u, h, hn => by
    have hL : ∀ {l m : List V}, fzLQ (fzQ f σ) l = some m → noidL l = true → m = l := fun h => fzLQ_id (fzQ_id f σ) h
    cases v <;> simp only [fzQ, bcase] at h
    case own => simp [V.noid] at hn
    case ptr => simp [V.noid] at hn
    case iface =>
      simp only [V.noid] at hn
      simp only [Option.map_eq_some_iff] at h
      obtain ⟨m, hm, rfl⟩ := h
      rw [fzQ_id f σ _ _ hm hn]
    all_goals first
      | (simp only [V.noid] at hn
         simp only [Option.map_eq_some_iff] at h
         obtain ⟨m, hm, rfl⟩ := h
         rw [hL hm hn])
      | (split at h <;> first | exact absurd hn ‹_› | (simp only [Option.some.injEq, reduceCtorEq] at h; try exact h.symm))
theorem fzQ_ok {R : Nat → Nat → Prop} {σt : Tr (Option Ob)} {σ : Store} (hm : Lv R (stF σt) σ) : ∀ (f : Nat) (v u v' : V), fzQ f σt v = some v' → VRel R v u → Fz σ (fun a => ∃ c o, R c a ∧ stF σt c = some o) u v'
  | 0, _, _, _, h, _ => by simp [fzQ] at h
  | f + 1, v, u, v', h, hr => by
    have hL : ∀ (vs us out : List V), fzLQ (fzQ f σt) vs = some out → VRelL R vs us → FzL σ (fun a => ∃ c o, R c a ∧ stF σt c = some o) us out := by
      intro vs
      induction vs with
      | nil =>
        intro us out h1 h2
        rw [VRelL.nil_iff] at h2; subst h2
        simp only [fzLQ, Option.some.injEq] at h1; subst h1
        exact .nil
      | cons a vs ih =>
        intro us out h1 h2
        obtain ⟨b, bs, rfl, h3, h4⟩ := VRelL.cons_iff.1 h2
        simp only [fzLQ] at h1
        split at h1
        · rename_i c hc
          split at h1
          · rename_i cs hcs
            simp only [Option.some.injEq] at h1; subst h1
            exact .cons _ _ _ _ (fzQ_ok hm f _ _ _ hc h3) (ih _ _ hcs h4)
          · cases h1
        · cases h1
    cases v <;> simp only [fzQ, bcase] at h
    case own id off len =>
      split at h
      · rename_i ob hob
        split at h
        · rename_i hle
          simp only [Option.map_eq_some_iff] at h
          obtain ⟨rows, h3, rfl⟩ := h
          simp only [VRel] at hr
          obtain ⟨id', rfl, hR⟩ := hr
          obtain ⟨rows', g1, g2⟩ := hm _ id' ob hR hob
          have := hL _ _ _ h3 ((g2.drop _).take _)
          exact .own id' _ _ ⟨ob.elem, ob.sz, rows'⟩ _ g1 ⟨_, ob, hR, hob⟩ (by rw [g2.length]; exact Nat.le_of_ble_eq_true hle) this
        · cases h
      · cases h
    case ptr id i k =>
      split at h
      · rename_i hk
        split at h
        · rename_i ob hob
          split at h
          · rename_i r hri
            simp only [Option.map_eq_some_iff] at h
            obtain ⟨r', h3, rfl⟩ := h
            simp only [VRel] at hr
            obtain ⟨id', rfl, hR⟩ := hr
            obtain ⟨rows', g1, g2⟩ := hm _ id' ob hR hob
            obtain ⟨q, g3, g4⟩ := g2.get hri
            have hk0 : k = 0 := Nat.eq_of_beq_eq_true hk
            subst hk0
            exact .ptr id' _ ⟨ob.elem, ob.sz, rows'⟩ q r' g1 ⟨_, ob, hR, hob⟩ g3 (fzQ_ok hm f _ _ _ h3 g4)
          · cases h
        · cases h
      · cases h
    case iface t x =>
      simp only [VRel] at hr
      obtain ⟨y, rfl, hr⟩ := hr
      simp only [Option.map_eq_some_iff] at h
      obtain ⟨m, hm', rfl⟩ := h
      exact .iface _ _ _ (fzQ_ok hm f _ _ _ hm' hr)
    case sl sz rows =>
      simp only [VRel] at hr
      obtain ⟨y, rfl, hr⟩ := hr
      simp only [Option.map_eq_some_iff] at h
      obtain ⟨m, hm', rfl⟩ := h
      exact .sl _ _ _ (hL _ _ _ hm' hr)
    case agg =>
      simp only [VRel] at hr
      obtain ⟨y, rfl, hr⟩ := hr
      simp only [Option.map_eq_some_iff] at h
      obtain ⟨m, hm', rfl⟩ := h
      exact .agg _ _ (hL _ _ _ hm' hr)
    case tup =>
      simp only [VRel] at hr
      obtain ⟨y, rfl, hr⟩ := hr
      simp only [Option.map_eq_some_iff] at h
      obtain ⟨m, hm', rfl⟩ := h
      exact .tup _ _ (hL _ _ _ hm' hr)
    case fn =>
      simp only [VRel] at hr
      obtain ⟨y, rfl, hr⟩ := hr
      simp only [Option.map_eq_some_iff] at h
      obtain ⟨m, hm', rfl⟩ := h
      exact .fn _ _ _ (hL _ _ _ hm' hr)
    case bm =>
      simp only [VRel] at hr
      obtain ⟨y, rfl, hr⟩ := hr
      simp only [Option.map_eq_some_iff] at h
      obtain ⟨m, hm', rfl⟩ := h
      exact .bm _ _ _ (hL _ _ _ hm' hr)
    all_goals (split at h
               · rename_i hno
                 simp only [Option.some.injEq] at h; subst h
                 have := noid_eq _ _ hno hr
                 subst this
                 exact .same _ hno
               · cases h)
theorem fzLQ_ok {R : Nat → Nat → Prop} {σt : Tr (Option Ob)} {σ : Store} (hm : Lv R (stF σt) σ) {f : Nat} : ∀ (vs us out : List V), fzLQ (fzQ f σt) vs = some out → VRelL R vs us → WkL σ nost us out
  | [], us, out, h1, h2 => by
    rw [VRelL.nil_iff] at h2; subst h2
    simp only [fzLQ, Option.some.injEq] at h1; subst h1
    simp [WkL]
  | a :: vs, us, out, h1, h2 => by
    obtain ⟨b, bs, rfl, h3, h4⟩ := VRelL.cons_iff.1 h2
    simp only [fzLQ] at h1
    split at h1
    · rename_i c hc
      split at h1
      · rename_i cs hcs
        simp only [Option.some.injEq] at h1; subst h1
        simp only [WkL]
        exact ⟨(fzQ_ok hm f _ _ _ hc h3).wk (nost_sub σ) (fun _ _ => rfl), fzLQ_ok hm _ _ _ hcs h4⟩
      · cases h1
    · cases h1
inductive Fk where
  | code (vf : VFn)
  | fz (vf : VFn)
  | orc (g : List V → Option V)
def fzCall (σ : Tr (Option Ob)) (args : List V) (h : List V → Option V) (nxt : Nat) : Option Rs := match fzLQ (fzQ 40 σ) args with
  | some as1 => (match h as1 with
    | some v => @Bool.casesOn (fun _ => Option Rs) (v.noid && (noidL args || v.scalar)) none (some ⟨v, σ, nxt⟩)
    | none => none)
  | none => none
def evZ (run : Nat → VCode → CS → Out) (vf : VFn) (as1 : List V) : Option V := @Bool.casesOn (fun _ => Option V) (Nat.ble as1.length vf.n) none
  (match outQ vf.res (run 0 vf.code ⟨Tr.ofL as1 0 .e, .e, 0⟩) with
    | some r => fzQ 40 r.σ r.v
    | none => none)
def evF2 (run : Nat → VCode → CS → Out) (T : FuncId → Option Fk) : CallT := fun f args σ nxt fl => match T f with
  | none => none
  | some k => match k with
    | .code vf => @Bool.casesOn (fun _ => Option Rs) (Nat.ble args.length vf.n) none (outQ vf.res (run fl vf.code ⟨Tr.ofL args 0 .e, σ, nxt⟩))
    | .fz vf => fzCall σ args (evZ run vf) nxt
    | .orc g => fzCall σ args g nxt
variable {P : Program} {n : Nat}
theorem fzCall_ok {f : FuncId} {h : List V → Option V} (hp : ∀ as1 v, h as1 = some v → noidL as1 = true → v.noid = true → PFun P f as1 v) {args : List V} {σc : Tr (Option Ob)} {nxt fl : Nat} {r : Rs} (hr : fzCall σc args h nxt = some r)
    {K : Store} {R : Nat → Nat → Prop} {σ : Store} {args' : List V} (hm : MRel K fl R (stF σc) nxt σ) (ha : VRelL R args args') :
    Contract P f args' σ fun v σ' => ∃ R', Le R R' ∧ VRel R' r.v v ∧ MRel K fl R' (stF r.σ) r.nxt σ' := by
  unfold fzCall at hr
  split at hr
  · rename_i as1 h1
    split at hr
    · rename_i v h2
      rw [bcase] at hr
      split at hr
      · rename_i hc
        simp only [Bool.and_eq_true, Bool.or_eq_true] at hc
        simp only [Option.some.injEq] at hr; subst hr
        have hno1 := fzLQ_noid (fzQ_noid 40 σc) h1
        have hpf := hp as1 v h2 hno1 hc.1
        have key : Contract P f args' σ fun r σ' => r = v ∧ σ' = σ := by
          rcases hc.2 with h3 | h3
          · have e1 : as1 = args := fzLQ_id (fzQ_id 40 σc) h1 h3
            have e2 : args' = args := noidL_eq _ _ h3 ha
            rw [e2, ← e1]
            exact hpf σ
          · exact PFun.borrow (fzLQ_ok hm.live _ _ _ h1 ha) hpf h3
        refine key.weak ?_
        rintro r σ' ⟨rfl, rfl⟩
        exact ⟨r, σ', SubStore.refl _, Wk.refl (SubStore.refl _) _, R, Le.refl R, noid_refl _ hc.1, hm⟩
      · cases hr
    · cases hr
  · cases hr
end Go.Vc
namespace Go.Vc
variable {P : Program} {n : Nat} {st : St} {Q : St → Prop} {k : List It}
def QYd (P : Program) (i : VIns) (x : St) : Prop := match i.dst with
  | some d => QY P i x.s x.σ (x.s d)
  | none => ∃ v, QY P i x.s x.σ v
def RE (P : Program) (l : List VIns) (K : St → Prop) : List Nat → St → Prop
  | [], x => K x
  | m :: its, x => match l[m / 2]? with
    | none => False
    | some ins => if m % 2 = 0 then TC P ins x (RE P l K its) else QYd P ins x ∧ RE P l K its x
def insAt (l : List VIns) (i : Nat) : VIns := (l[i]?).getD ⟨none, .bad, none⟩
def befAt (bef : List (List Nat)) (i : Nat) : List Nat := bef.getD i []
def isEff (l : List VIns) (bef : List (List Nat)) (j : Nat) : Bool := okind (insAt l j).op != 0 || (match (insAt l j).dst with
  | some d => (List.range l.length).any fun i => (insAt l i).uses.contains d && !(befAt bef i).contains j
  | none => false)
def chks (l : List VIns) (bef : List (List Nat)) (done : List Nat) (e : Nat) : List Nat :=
  if isEff l bef e then done.filterMap fun k => if !(isEff l bef k) && (!(sfree (insAt l k).op) && !((befAt bef e).contains k)) then some (2 * k + 1) else none else []
def itemsF (l : List VIns) (bef : List (List Nat)) : List Nat → List Nat → List Nat
  | _, [] => []
  | done, e :: r => 2 * e :: (chks l bef done e ++ itemsF l bef (done ++ [e]) r)
def pairsB (p : Nat → Nat → Bool) : List Nat → Bool
  | [] => true
  | a :: r => r.all (p a) && pairsB p r
theorem pairsB_spec {p : Nat → Nat → Bool} : ∀ {a : List Nat} {b : List Nat} {x y : Nat}, pairsB p (a ++ b) = true → x ∈ a → y ∈ b → p x y = true
  | [], _, _, _, _, h, _ => by cases h
  | c :: a, b, x, y, hp, hx, hy => by
    simp only [List.cons_append, pairsB, Bool.and_eq_true] at hp
    rcases List.mem_cons.1 hx with rfl | hx
    · exact List.all_eq_true.1 hp.1 y (List.mem_append_right _ hy)
    · exact pairsB_spec hp.2 hx hy
def aheadB (f : Nat → List Nat) : List Nat → List Nat → Bool
  | _, [] => true
  | done, e :: r => (f e).all done.contains && aheadB f (done ++ [e]) r
theorem aheadB_spec {f : Nat → List Nat} : ∀ {r done : List Nat} {a : List Nat} {e : Nat} {b : List Nat}, aheadB f done r = true → r = a ++ e :: b → ∀ x ∈ f e, x ∈ done ++ a
  | [], _, a, e, b, _, h, _, _ => by simp at h
  | c :: r, done, [], e, b, hB, h, x, hx => by
    simp only [List.nil_append, List.cons.injEq] at h
    obtain ⟨rfl, rfl⟩ := h
    simp only [aheadB, Bool.and_eq_true] at hB
    simpa using List.all_eq_true.1 hB.1 x hx
  | c :: r, done, d :: a, e, b, hB, h, x, hx => by
    simp only [List.cons_append, List.cons.injEq] at h
    obtain ⟨rfl, rfl⟩ := h
    simp only [aheadB, Bool.and_eq_true] at hB
    have := aheadB_spec hB.2 rfl x hx
    simpa using this
def eOkW (l : List VIns) (deps bef : List (List Nat)) (ord : List Nat) : Bool :=
  (decide (ord.length = l.length) && (decide (deps.length = l.length) && ord.all fun i => decide (i < l.length))) &&
  (pairsB (fun a b => decide (a ≠ b)) ord &&
  (aheadB (fun i => deps.getD i []) [] ord &&
  ((List.range l.length).all (fun j => (befAt bef j).all fun i => (deps.getD j []).any fun d => d == i || (befAt bef d).contains i) &&
  ((List.range l.length).all (fun i => (List.range l.length).all fun j => i == j || ((insAt l i).dst.isNone || (insAt l i).dst != (insAt l j).dst)) &&
  (List.range l.length).all (fun i => (List.range l.length).all fun j => i == j || (match (insAt l j).dst with
      | some d => !((insAt l i).uses.contains d) || ((befAt bef i).contains j || (isEff l bef j && (befAt bef j).contains i))
      | none => true))))))
def eOk (l : List VIns) (deps bef : List (List Nat)) (ord : List Nat) : Bool := eOkW l deps bef ord && pairsB (fun a b => !(isEff l bef a) || (befAt bef b).contains a) ord
theorem nodup_pairs : ∀ {l : List Nat}, pairsB (fun a b => decide (a ≠ b)) l = true → l.Nodup
  | [], _ => List.nodup_nil
  | a :: r, h => by
    simp only [pairsB, Bool.and_eq_true] at h
    refine List.nodup_cons.2 ⟨fun hm => ?_, nodup_pairs h.2⟩
    have := List.all_eq_true.1 h.1 a hm
    simp at this
structure EOkW (l : List VIns) (deps bef : List (List Nat)) (ord : List Nat) : Prop where
  len : ord.length = l.length
  dlen : deps.length = l.length
  lt : ∀ i ∈ ord, i < l.length
  nodup : ord.Nodup
  ahead : ∀ a e b, ord = a ++ e :: b → ∀ x ∈ deps.getD e [], x ∈ a
  anc : ∀ j, j < l.length → ∀ i ∈ befAt bef j, ∃ d ∈ deps.getD j [], d = i ∨ i ∈ befAt bef d
  dsts : ∀ i j, i < l.length → j < l.length → i ≠ j → ∀ d, (insAt l i).dst = some d → (insAt l j).dst ≠ some d
  anti : ∀ i j, i < l.length → j < l.length → i ≠ j → ∀ d, (insAt l j).dst = some d → d ∈ (insAt l i).uses → j ∈ befAt bef i ∨ (isEff l bef j = true ∧ i ∈ befAt bef j)
theorem eOkW_spec {l : List VIns} {deps bef : List (List Nat)} {ord : List Nat} (h : eOkW l deps bef ord = true) : EOkW l deps bef ord := by
  simp only [eOkW, Bool.and_eq_true, decide_eq_true_eq] at h
  obtain ⟨⟨h1, h2, h3⟩, h4, h5, h6, h7, h8⟩ := h
  refine ⟨h1, h2, fun i hi => by simpa using List.all_eq_true.1 h3 i hi, nodup_pairs h4, fun a e b he x hx => by simpa using aheadB_spec h5 he x hx, ?_, ?_, ?_⟩
  · intro j hj i hi
    have := List.all_eq_true.1 (List.all_eq_true.1 h6 j (by simpa using hj)) i hi
    simp only [List.any_eq_true, Bool.or_eq_true, beq_iff_eq, List.contains_iff_mem] at this
    exact this
  · intro i j hi hj hne d hd he
    have := List.all_eq_true.1 (List.all_eq_true.1 h7 i (by simpa using hi)) j (by simpa using hj)
    simp only [Bool.or_eq_true, beq_iff_eq, hd, he, Option.isNone_some, bne_self_eq_false, Bool.false_eq_true, or_false] at this
    exact hne this
  · intro i j hi hj hne d hd hu
    have := List.all_eq_true.1 (List.all_eq_true.1 h8 i (by simpa using hi)) j (by simpa using hj)
    simp only [Bool.or_eq_true, beq_iff_eq, hd, Bool.and_eq_true, Bool.not_eq_true', List.contains_iff_mem] at this
    rcases this with h | h | h
    · exact absurd h hne
    · have hc : (insAt l i).uses.contains d = true := List.contains_iff_mem.2 hu
      rw [hc] at h; cases h
    · exact h
structure EOk (l : List VIns) (deps bef : List (List Nat)) (ord : List Nat) : Prop extends EOkW l deps bef ord where
  effs : ∀ a b x y, ord = a ++ b → x ∈ a → y ∈ b → isEff l bef x = true → x ∈ befAt bef y
theorem eOk_spec {l : List VIns} {deps bef : List (List Nat)} {ord : List Nat} (h : eOk l deps bef ord = true) : EOk l deps bef ord := by
  simp only [eOk, Bool.and_eq_true] at h
  refine ⟨eOkW_spec h.1, fun a b x y he hx hy hxe => ?_⟩
  have h9 := h.2
  rw [he] at h9
  have := pairsB_spec h9 hx hy
  simp only [hxe, Bool.not_true, Bool.false_or, List.contains_iff_mem] at this
  exact this
theorem EOkW.closed {l : List VIns} {deps bef : List (List Nat)} {ord : List Nat} (h : EOkW l deps bef ord) {L : List Nat} (hc : ∀ m ∈ L, ∀ d ∈ deps.getD m [], d ∈ L) (hmem : ∀ i, i < l.length → i ∈ ord) :
    ∀ (m : Nat) (a : List Nat) (j : Nat) (b : List Nat), a.length < m → ord = a ++ j :: b → (∀ d ∈ deps.getD j [], d ∈ L) → ∀ i ∈ befAt bef j, i ∈ L := by
  intro m
  induction m with
  | zero => intro a j b ha; omega
  | succ m ih =>
    intro a j b ha he hd i hi
    have hj : j < l.length := h.lt j (by rw [he]; simp)
    obtain ⟨d, h1, h2⟩ := h.anc j hj i hi
    rcases h2 with rfl | h2
    · exact hd d h1
    · have hda := h.ahead a j b he d h1
      obtain ⟨a1, a2, rfl⟩ := List.append_of_mem hda
      exact ih a1 d (a2 ++ j :: b) (by simp at ha; omega) (by rw [he]; simp) (fun d' h' => hc d (hd d h1) d' h') i h2
theorem wantV_congr {i : VIns} {s s' : Nat → V} (h : ∀ u ∈ i.uses, s u = s' u) : wantV s i.g = wantV s' i.g := by
  cases hg : i.g with
  | none => rfl
  | some g =>
    obtain ⟨x, b⟩ := g
    have : x.ev s = x.ev s' := by
      cases x with
      | t t => exact h t (List.mem_filterMap.2 ⟨.t t, List.mem_append_right _ (by simp [hg]), rfl⟩)
      | c v => rfl
    simp only [wantV, this]
theorem xs_congr {i : VIns} {s s' : Nat → V} (h : ∀ u ∈ i.uses, s u = s' u) : ∀ x ∈ i.op.xs, x.ev s = x.ev s' := fun x hx => by
  cases x with
  | t t => exact h t (uses_op hx rfl)
  | c v => rfl
theorem QY_congr {i : VIns} {s s' : Nat → V} {σ : Store} {v : V} (h : ∀ u ∈ i.uses, s u = s' u) (hq : QY P i s σ v) : QY P i s' σ v := by
  unfold QY at *
  rw [← wantV_congr h]
  exact hq.imp (fun ⟨h1, h2⟩ => ⟨h1, QO_congr (xs_congr h) h2⟩) id
theorem TC_congr {i : VIns} {x y : St} {K K' : St → Prop} (h : ∀ u ∈ i.uses, x.s u = y.s u) (hσ : x.σ = y.σ) (hk : ∀ r σ', K ⟨putO x.s i.dst r, σ'⟩ → K' ⟨putO y.s i.dst r, σ'⟩) (ht : TC P i x K) : TC P i y K' := by
  have hx := xs_congr h
  rcases ht with ht | ⟨hw, ht⟩
  · refine .inl ?_
    unfold T at *
    rw [← wantV_congr h]
    split <;> rename_i ho <;> simp only [ho] at ht
    · unfold TO at *
      split <;> rename_i hk0 <;> simp only [hk0] at ht
      · obtain ⟨g1, v, g2, g3⟩ := ht
        obtain ⟨e1, e2⟩ := vpure_congr (σ := y.σ) hx
        exact ⟨e2.1 g1, v, by rw [← e1, ← hσ]; exact g2, by rw [← hσ]; exact hk _ _ g3⟩
      · split at ht
        · rename_i fx xs hop
          obtain ⟨f, caps, v, g1, g2, g3⟩ := ht
          refine ⟨f, caps, v, ?_, ?_, by rw [← hσ]; exact hk _ _ g3⟩
          · rw [← hx fx (by rw [hop]; simp [VOp.xs])]; exact g1
          · rw [← map_ev (s := x.s) (s' := y.s) fun z hz => hx z (by rw [hop]; simp [VOp.xs, hz]), ← hσ]; exact g2
        · exact ht.elim
      · split at ht
        · rename_i sz xa xv hop
          obtain ⟨σ', g1, g2⟩ := ht
          refine ⟨σ', ?_, hk _ _ g2⟩
          rw [← hx xa (by rw [hop]; simp [VOp.xs]), ← hx xv (by rw [hop]; simp [VOp.xs]), ← hσ]; exact g1
        · exact ht.elim
      · obtain ⟨g, g1, g2⟩ := ht
        refine ⟨g, by rw [← eff_congr hx, ← hσ]; exact g1, fun id hid => hk _ _ (g2 id (by rw [hσ]; exact hid))⟩
    · rw [← hσ]; exact hk _ _ ht
  · refine .inr ⟨by rw [← wantV_congr h]; exact hw, ?_⟩
    split at ht
    · rename_i fx xs hop
      obtain ⟨f, caps, Post, g1, g2, g3⟩ := ht
      refine ⟨f, caps, Post, ?_, ?_, fun r σ' hp => hk _ _ (g3 r σ' hp)⟩
      · rw [← hx fx (by rw [hop]; simp [VOp.xs])]; exact g1
      · rw [← map_ev (s := x.s) (s' := y.s) fun z hz => hx z (by rw [hop]; simp [VOp.xs, hz]), ← hσ]; exact g2
    · exact ht.elim
structure ELag (P : Program) (l : List VIns) (deps bef : List (List Nat)) (ord : List Nat) (K : St → Prop) (L : List Nat) (y : St) (done rest : List Nat) (x : St) : Prop where
  split : ord = done ++ rest
  sub : ∀ i ∈ L, i ∈ done
  nodup : L.Nodup
  closed : ∀ m ∈ L, ∀ d ∈ deps.getD m [], d ∈ L
  effs : ∀ i ∈ done, isEff l bef i = true → i ∈ L
  store : y.σ = x.σ
  slot : ∀ d, (∀ i ∈ done, i ∉ L → (insAt l i).dst ≠ some d) → y.s d = x.s d
  lag : ∀ i ∈ done, i ∉ L → QYd P (insAt l i) x
  go : RE P l K (itemsF l bef done rest) x
theorem isEff_plain {l : List VIns} {bef : List (List Nat)} {e : Nat} (h : isEff l bef e = false) (he : e < l.length) (hne : e ∉ befAt bef e) : okind (insAt l e).op = 0 ∧ ∀ d, (insAt l e).dst = some d → d ∉ (insAt l e).uses := by
  simp only [isEff, Bool.or_eq_false_iff, bne_eq_false_iff_eq] at h
  refine ⟨h.1, fun d hd hu => ?_⟩
  have h2 := h.2
  rw [hd] at h2
  simp only [List.any_eq_false, List.mem_range, Bool.and_eq_true, Bool.not_eq_true', not_and, Bool.not_eq_false] at h2
  have := h2 e he (List.contains_iff_mem.2 hu)
  exact hne (List.contains_iff_mem.1 this)
theorem RE_op {l : List VIns} {K : St → Prop} {e : Nat} {its : List Nat} {x : St} (he : e < l.length) : RE P l K (2 * e :: its) x ↔ TC P (insAt l e) x (RE P l K its) := by
  have h1 : 2 * e / 2 = e := by omega
  have h2 : 2 * e % 2 = 0 := by omega
  rw [RE, h1, List.getElem?_eq_getElem he]
  simp only [if_pos h2, insAt, List.getElem?_eq_getElem he, Option.getD_some]
theorem RE_chk {l : List VIns} {K : St → Prop} {e : Nat} {its : List Nat} {x : St} (he : e < l.length) : RE P l K ((2 * e + 1) :: its) x ↔ QYd P (insAt l e) x ∧ RE P l K its x := by
  have h1 : (2 * e + 1) / 2 = e := by omega
  have h2 : ¬ (2 * e + 1) % 2 = 0 := by omega
  rw [RE, h1, List.getElem?_eq_getElem he]
  simp only [if_neg h2, insAt, List.getElem?_eq_getElem he, Option.getD_some]
theorem RE_chks {l : List VIns} {K : St → Prop} {its : List Nat} {x : St} (p : Nat → Bool) : ∀ {done : List Nat}, (∀ i ∈ done, i < l.length) → RE P l K ((done.filterMap fun k => if p k then some (2 * k + 1) else none) ++ its) x →
    (∀ k ∈ done, p k = true → QYd P (insAt l k) x) ∧ RE P l K its x
  | [], _, h => ⟨by simp, h⟩
  | a :: r, hl, h => by
    rw [List.filterMap_cons] at h
    cases hp : p a with
    | false =>
      simp only [hp, Bool.false_eq_true, if_false] at h
      obtain ⟨h1, h2⟩ := RE_chks p (fun i hi => hl i (by simp [hi])) h
      refine ⟨fun k hk hpk => ?_, h2⟩
      rcases List.mem_cons.1 hk with rfl | hk
      · rw [hp] at hpk; cases hpk
      · exact h1 k hk hpk
    | true =>
      simp only [hp, if_true, List.cons_append] at h
      rw [RE_chk (hl a (by simp))] at h
      obtain ⟨h1, h2⟩ := RE_chks p (fun i hi => hl i (by simp [hi])) h.2
      refine ⟨fun k hk hpk => ?_, h2⟩
      rcases List.mem_cons.1 hk with rfl | hk
      · exact h.1
      · exact h1 k hk hpk
section
variable {l : List VIns} {deps bef : List (List Nat)} {ord : List Nat} {K : St → Prop} (hE : EOkW l deps bef ord)
include hE
theorem EOkW.mem (i : Nat) (hi : i < l.length) : i ∈ ord := (pigeon l.length ord hE.nodup hE.lt).2 hE.len i hi
theorem EOkW.befAhead {a : List Nat} {j : Nat} {b : List Nat} (he : ord = a ++ j :: b) : ∀ i ∈ befAt bef j, i ∈ a := by
  have hc : ∀ m ∈ a, ∀ d ∈ deps.getD m [], d ∈ a := fun m hm d hd => by
    obtain ⟨a1, a2, rfl⟩ := List.append_of_mem hm
    have := hE.ahead a1 m (a2 ++ j :: b) (by rw [he]; simp) d hd
    simp [this]
  exact hE.closed hc hE.mem (a.length + 1) a j b (by omega) he (fun d hd => hE.ahead a j b he d hd)
theorem EOkW.notSelf {j : Nat} (hj : j < l.length) : j ∉ befAt bef j := fun h => by
  obtain ⟨a, b, he⟩ := List.append_of_mem (hE.mem j hj)
  have h1 := hE.befAhead he j h
  have := hE.nodup
  rw [he] at this
  have := (List.nodup_append.1 this).2.2 j h1 j (by simp)
  exact this rfl
theorem QYd_put {i : Nat} {x : St} {e : Nat} {v : V} {σ' : Store} (hi : i < l.length) (he : e < l.length) (hne : i ≠ e) (hu : ∀ d, (insAt l e).dst = some d → d ∉ (insAt l i).uses)
    (hq : ∀ v, QY P (insAt l i) x.s x.σ v → QY P (insAt l i) x.s σ' v) (h : QYd P (insAt l i) x) : QYd P (insAt l i) ⟨putO x.s (insAt l e).dst v, σ'⟩ := by
  unfold QYd at *
  have hq' : ∀ v', QY P (insAt l i) x.s x.σ v' → QY P (insAt l i) (putO x.s (insAt l e).dst v) σ' v' := fun v' hv => (QY_put hu).2 (hq v' hv)
  cases hd : (insAt l i).dst with
  | none => rw [hd] at h; obtain ⟨v', h⟩ := h; exact ⟨v', hq' v' h⟩
  | some d =>
    rw [hd] at h
    simp only at h ⊢
    have : putO x.s (insAt l e).dst v d = x.s d := by
      have := hE.dsts i e hi he hne d hd
      cases hde : (insAt l e).dst with
      | none => rfl
      | some d' =>
        rw [hde] at this
        simp only [putO]
        rw [if_neg (fun e' => this (by rw [e']))]
    rw [this]
    exact hq' _ h
theorem ELag.adv {L : List Nat} {y : St} : ∀ {rest done : List Nat} {x : St}, ELag P l deps bef ord K L y done rest x →
    ∃ done' rest' x', ELag P l deps bef ord K L y done' rest' x' ∧ ∀ h r, rest' = h :: r → isEff l bef h = true
  | [], done, x, h => ⟨done, [], x, h, by simp⟩
  | e :: rest, done, x, h => by
    cases heff : isEff l bef e with
    | true => exact ⟨done, e :: rest, x, h, fun a r he => by cases he; exact heff⟩
    | false =>
      have hel : e < l.length := hE.lt e (by rw [h.split]; simp)
      obtain ⟨hk, hself⟩ := isEff_plain heff hel (hE.notSelf hel)
      have hnd := hE.nodup
      rw [h.split] at hnd
      have hed : e ∉ done := fun hm => (List.nodup_append.1 hnd).2.2 e hm e (by simp) rfl
      have heL : e ∉ L := fun hm => hed (h.sub e hm)
      have hgo := h.go
      rw [itemsF, RE_op hel, chks, if_neg (by simp [heff]), List.nil_append] at hgo
      have hT : T P (insAt l e) x (RE P l K (itemsF l bef (done ++ [e]) rest)) := by
        rcases hgo with hgo | ⟨_, hgo⟩
        · exact hgo
        · exfalso
          revert hgo hk
          generalize (insAt l e).op = op
          intro hk hgo
          split at hgo
          · simp [okind] at hk
          · exact hgo
      obtain ⟨v, hv, hgo'⟩ := (T_quiet (by simp [quietI, hk])).1 hT
      refine ELag.adv (rest := rest) (done := done ++ [e]) (x := ⟨putO x.s (insAt l e).dst v, x.σ⟩) ⟨by rw [h.split]; simp, fun i hi => by simp [h.sub i hi], h.nodup, h.closed, fun i hi hie => ?_, h.store, fun d hd => ?_, fun i hi hiL => ?_, hgo'⟩
      · rcases List.mem_append.1 hi with hi | hi
        · exact h.effs i hi hie
        · simp only [List.mem_singleton] at hi; rw [hi, heff] at hie; cases hie
      · have h1 := h.slot d fun i hi hiL => hd i (by simp [hi]) hiL
        have h2 := hd e (by simp) heL
        rw [h1]
        simp only
        cases hde : (insAt l e).dst with
        | none => rfl
        | some d' =>
          rw [hde] at h2
          simp only [putO]
          rw [if_neg (fun e' => h2 (by rw [e']))]
      · by_cases hie : i = e
        · subst hie
          unfold QYd
          cases hd : (insAt l i).dst with
          | none => exact ⟨v, hv⟩
          | some d =>
            simp only
            have e1 : putO x.s (some d) v d = v := by simp [putO]
            rw [e1]
            exact (QY_put (fun t ht => by cases ht; exact hself d hd)).2 hv
        · have hid : i ∈ done := by
            rcases List.mem_append.1 hi with hi | hi
            · exact hi
            · simp only [List.mem_singleton] at hi; exact absurd hi hie
          have hil : i < l.length := hE.lt i (by rw [h.split]; simp [hid])
          refine QYd_put hE hil hel hie (fun d hd hu => ?_) (fun v hv => hv) (h.lag i hid hiL)
          rcases hE.anti i e hil hel hie d hd hu with h1 | ⟨h1, _⟩
          · obtain ⟨a, b, hab⟩ := List.append_of_mem hid
            have h2 := hE.befAhead (a := a) (j := i) (b := b ++ e :: rest) (by rw [h.split, hab]; simp) e h1
            exact hed (by rw [hab]; simp [h2])
          · rw [heff] at h1; cases h1
end
section
variable {l : List VIns} {deps bef : List (List Nat)} {ord : List Nat} {K : St → Prop} (hE : EOk l deps bef ord)
include hE
theorem anyVC_of_lag : ∀ (f : Nat) (L : List Nat) (y : St) (done rest : List Nat) (x : St), f + L.length = l.length → ELag P l deps bef ord K L y done rest x → anyVC P l deps K f L y := by
  intro f
  induction f with
  | zero =>
    intro L y done rest x hf h
    have hall : ∀ i, i < l.length → i ∈ L := (pigeon l.length L h.nodup fun i hi => hE.lt i (by rw [h.split]; simp [h.sub i hi])).2 (by omega)
    have hnd := hE.nodup
    rw [h.split] at hnd
    have hrest : rest = [] := by
      cases rest with
      | nil => rfl
      | cons e r =>
        exfalso
        have hel : e < l.length := hE.lt e (by rw [h.split]; simp)
        exact (List.nodup_append.1 hnd).2.2 e (h.sub e (hall e hel)) e (by simp) rfl
    subst hrest
    have hyx : y = x := by
      obtain ⟨s, σ⟩ := y
      obtain ⟨s', σ'⟩ := x
      have h1 : σ = σ' := h.store
      have h2 : s = s' := funext fun d => h.slot d fun i hi hiL => absurd (hall i (hE.lt i (by rw [h.split]; simp [hi]))) hiL
      rw [h1, h2]
    refine ⟨?_, by rw [hyx]; exact h.go⟩
    unfold readyV
    rw [List.filter_eq_nil_iff]
    intro i hi
    simp only [List.mem_range, hE.dlen] at hi
    simp [hall i hi]
  | succ f ih =>
    intro L y done rest x hf h
    obtain ⟨done, rest, x, h, hhead⟩ := ELag.adv hE.toEOkW h
    have hnd := hE.nodup
    rw [h.split] at hnd
    have hmemL : ∀ i ∈ L, i < l.length := fun i hi => hE.lt i (by rw [h.split]; simp [h.sub i hi])
    have key : allVC P l (anyVC P l deps K f) L y (readyV deps L) := by
      refine allV_ofC fun i hi => ?_
      obtain ⟨hil, hiL, hdep⟩ := readyV_mem hi
      rw [hE.dlen] at hil
      refine ⟨insAt l i, by simp [insAt, List.getElem?_eq_getElem hil], ?_⟩
      obtain ⟨pa, pb, hpe⟩ := List.append_of_mem (hE.mem i hil)
      have hbefL : ∀ j ∈ befAt bef i, j ∈ L := hE.closed h.closed hE.mem (pa.length + 1) pa i pb (by omega) hpe hdep
      have huses : ∀ u ∈ (insAt l i).uses, x.s u = y.s u := fun u hu => (h.slot u fun j hj hjL hd => by
        have hjl : j < l.length := hE.lt j (by rw [h.split]; simp [hj])
        by_cases hji : j = i
        · subst hji
          cases hje : isEff l bef j with
          | true => exact hjL (h.effs j hj hje)
          | false => exact (isEff_plain hje hjl (hE.notSelf hjl)).2 u hd hu
        · rcases hE.anti i j hil hjl (fun e => hji e.symm) u hd hu with h1 | ⟨h1, _⟩
          · exact hjL (hbefL j h1)
          · exact hjL (h.effs j hj h1)).symm
      by_cases hid : i ∈ done
      · have hie : isEff l bef i = false := by
          cases hie : isEff l bef i with
          | false => rfl
          | true => exact absurd (h.effs i hid hie) hiL
        obtain ⟨hk, _⟩ := isEff_plain hie hil (hE.notSelf hil)
        have hq := h.lag i hid hiL
        obtain ⟨v, hv, hvd⟩ : ∃ v, QY P (insAt l i) x.s x.σ v ∧ ∀ d, (insAt l i).dst = some d → x.s d = v := by
          unfold QYd at hq
          cases hd : (insAt l i).dst with
          | none => rw [hd] at hq; obtain ⟨v, hq⟩ := hq; exact ⟨v, hq, by simp⟩
          | some d => rw [hd] at hq; exact ⟨_, hq, fun d' e => by cases e; rfl⟩
        refine .inl ((T_quiet (by simp [quietI, hk])).2 ⟨v, ?_, ?_⟩)
        · rw [h.store]; exact QY_congr huses hv
        · refine ih (i :: L) _ done rest x (by simp only [List.length_cons]; omega) ⟨h.split, fun j hj => ?_, List.nodup_cons.2 ⟨hiL, h.nodup⟩, fun m hm d hd => ?_, fun j hj hje => by simp [h.effs j hj hje], h.store, fun d hd => ?_, fun j hj hjL => h.lag j hj (fun hm => hjL (by simp [hm])), h.go⟩
          · rcases List.mem_cons.1 hj with rfl | hj
            · exact hid
            · exact h.sub j hj
          · rcases List.mem_cons.1 hm with rfl | hm
            · simp [hdep d hd]
            · simp [h.closed m hm d hd]
          · simp only
            by_cases hdi : (insAt l i).dst = some d
            · rw [hdi]
              simp only [putO]
              rw [if_pos trivial]
              exact (hvd d hdi).symm
            · have h1 := h.slot d fun j hj hjL => by
                by_cases hji : j = i
                · rw [hji]; exact hdi
                · exact hd j hj (by simp [hji, hjL])
              rw [← h1]
              cases hde : (insAt l i).dst with
              | none => rfl
              | some d' =>
                rw [hde] at hdi
                simp only [putO]
                rw [if_neg (fun e' => hdi (by rw [e']))]
      · have hir : i ∈ rest := by
          have := hE.mem i hil
          rw [h.split] at this
          exact (List.mem_append.1 this).resolve_left hid
        obtain ⟨hd0, rr, rfl⟩ : ∃ a r, rest = a :: r := by
          cases rest with
          | nil => cases hir
          | cons a r => exact ⟨a, r, rfl⟩
        have heff := hhead hd0 rr rfl
        have hh0 : hd0 ∉ done := fun hm => (List.nodup_append.1 hnd).2.2 hd0 hm hd0 (by simp) rfl
        have hih : i = hd0 := by
          rcases List.mem_cons.1 hir with e | hir
          · exact e
          · exfalso
            have := hE.effs (done ++ [hd0]) rr hd0 i (by rw [h.split]; simp) (by simp) hir heff
            exact hh0 (h.sub _ (hbefL _ this))
        subst hih
        have hgo := h.go
        rw [itemsF, RE_op hil] at hgo
        refine TC_congr huses h.store.symm (fun r σ' hK => ?_) hgo
        rw [chks, if_pos heff] at hK
        obtain ⟨hck, hgo'⟩ := RE_chks (fun k => !(isEff l bef k) && (!(sfree (insAt l k).op) && !((befAt bef i).contains k))) (fun j hj => hE.lt j (by rw [h.split]; simp [hj])) hK
        refine ih (i :: L) _ (done ++ [i]) rr ⟨putO x.s (insAt l i).dst r, σ'⟩ (by simp only [List.length_cons]; omega) ⟨by rw [h.split]; simp, fun j hj => ?_, List.nodup_cons.2 ⟨hiL, h.nodup⟩, fun m hm d hd => ?_, fun j hj hje => ?_, rfl, fun d hd => ?_, fun j hj hjL => ?_, hgo'⟩
        · rcases List.mem_cons.1 hj with rfl | hj
          · simp
          · simp [h.sub j hj]
        · rcases List.mem_cons.1 hm with rfl | hm
          · simp [hdep d hd]
          · simp [h.closed m hm d hd]
        · rcases List.mem_append.1 hj with hj | hj
          · simp [h.effs j hj hje]
          · simp only [List.mem_singleton] at hj; simp [hj]
        · have h1 : (insAt l i).dst = some d ∨ y.s d = x.s d := by
            by_cases hdi : (insAt l i).dst = some d
            · exact .inl hdi
            · exact .inr (h.slot d fun j hj hjL => hd j (by simp [hj]) (by
                simp only [List.mem_cons, not_or]
                exact ⟨fun e => hid (e ▸ hj), hjL⟩))
          simp only
          cases hde : (insAt l i).dst with
          | none => rw [hde] at h1; exact h1.resolve_left (by simp)
          | some d' =>
            simp only [putO]
            split
            · rfl
            · rename_i hne
              rw [hde] at h1
              exact h1.resolve_left (fun e => hne (by cases e; rfl))
        · have hjd : j ∈ done := by
            rcases List.mem_append.1 hj with hj | hj
            · exact hj
            · simp only [List.mem_singleton] at hj; exact absurd (by simp [hj]) hjL
          have hjL' : j ∉ L := fun hm => hjL (by simp [hm])
          have hjl : j < l.length := hE.lt j (by rw [h.split]; simp [hjd])
          have hji : j ≠ i := fun e => hid (e ▸ hjd)
          have hje : isEff l bef j = false := by
            cases hje : isEff l bef j with
            | false => rfl
            | true => exact absurd (h.effs j hjd hje) hjL'
          cases hsf : sfree (insAt l j).op with
          | true =>
            refine QYd_put hE.toEOkW hjl hil hji (fun d hd hu => ?_) (fun v hv => QY_sfree hsf hv) (h.lag j hjd hjL')
            rcases hE.anti j i hjl hil hji d hd hu with h1 | ⟨_, h1⟩
            · obtain ⟨a, b, hab⟩ := List.append_of_mem hjd
              have h2 := hE.befAhead (a := a) (j := j) (b := b ++ i :: rr) (by rw [h.split, hab]; simp) i h1
              exact hid (by rw [hab]; simp [h2])
            · exact hjL' (hbefL j h1)
          | false =>
            refine hck j hjd ?_
            simp only [hje, hsf, Bool.not_false, Bool.true_and, Bool.not_eq_true']
            cases hc : (befAt bef i).contains j with
            | false => rfl
            | true => exact absurd (hbefL j (List.contains_iff_mem.1 hc)) hjL'
    cases hr : readyV deps L with
    | cons a r => unfold anyVC; rw [hr] at key ⊢; exact key
    | nil =>
      exfalso
      -- the first one that is not done could be done
      have : ∃ i, i ∈ ord ∧ i ∉ L := by
        by_cases hx : ∃ i, i ∈ ord ∧ i ∉ L
        · exact hx
        · exfalso
          have hsub : ∀ i ∈ ord, i ∈ L := fun i hi => Classical.byContradiction fun hn => hx ⟨i, hi, hn⟩
          have h1 := hE.nodup.length_le_of_subset hsub
          have := hE.len
          omega
      obtain ⟨i, hi, hiL⟩ := this
      have first : ∀ (a b : List Nat), ord = a ++ b → (∀ j ∈ a, j ∈ L) → (∃ i ∈ b, i ∉ L) → ∃ a' e b', ord = a' ++ e :: b' ∧ (∀ j ∈ a', j ∈ L) ∧ e ∉ L := by
        intro a b
        induction b generalizing a with
        | nil => rintro _ _ ⟨i, h, _⟩; cases h
        | cons e b ihb =>
          intro he ha hx
          by_cases heL : e ∈ L
          · refine ihb (a ++ [e]) (by rw [he]; simp) (fun j hj => ?_) ?_
            · rcases List.mem_append.1 hj with hj | hj
              · exact ha j hj
              · simp only [List.mem_singleton] at hj; rw [hj]; exact heL
            · obtain ⟨i, hi, hiL⟩ := hx
              rcases List.mem_cons.1 hi with rfl | hi
              · exact absurd heL hiL
              · exact ⟨i, hi, hiL⟩
          · exact ⟨a, e, b, he, ha, heL⟩
      obtain ⟨a, e, b, he, ha, heL⟩ := first [] ord rfl (by simp) ⟨i, hi, hiL⟩
      have hel : e < l.length := hE.lt e (by rw [he]; simp)
      have : e ∈ readyV deps L := by
        unfold readyV
        refine List.mem_filter.2 ⟨by simp [hE.dlen, hel], ?_⟩
        simp only [Bool.and_eq_true, Bool.not_eq_true', List.all_eq_true]
        refine ⟨by simpa using heL, fun d hd => ?_⟩
        simpa using ha d (hE.ahead a e b he d hd)
      rw [hr] at this
      cases this
end
theorem RE.call {l : List VIns} {K : St → Prop} {m : Nat} {rest : List Nat} {x : St} {i : VIns} (hi : l[m / 2]? = some i) (hm : m % 2 = 0) {fx : VX} {xs : List VX} (hw : wantV x.s i.g = some true) (ho : i.op = .call fx xs) {f : FuncId} {caps : List V} (hf : fx.ev x.s = .fn f caps)
    {Post : V → Store → Prop} (hc : Contract P f (xs.map (·.ev x.s) ++ caps) x.σ Post) (h : ∀ r σ', Post r σ' → RE P l K rest ⟨putO x.s i.dst r, σ'⟩) : RE P l K (m :: rest) x := by
  rw [RE, hi]
  simp only [if_pos hm]
  exact .inr ⟨hw, by rw [ho]; exact ⟨f, caps, Post, hf, hc, h⟩⟩
theorem RE.pcall {l : List VIns} {K : St → Prop} {m : Nat} {rest : List Nat} {x : St} {i : VIns} (hi : l[m / 2]? = some i) (hm : m % 2 = 0) {fx : VX} {xs : List VX} (hw : wantV x.s i.g = some true) (ho : i.op = .call fx xs) {f : FuncId} {caps : List V} (hf : fx.ev x.s = .fn f caps)
    {v : V} (hc : Contract P f (xs.map (·.ev x.s) ++ caps) x.σ fun r σ' => r = v ∧ σ' = x.σ) (h : RE P l K rest ⟨putO x.s i.dst v, x.σ⟩) : RE P l K (m :: rest) x :=
  RE.call hi hm hw ho hf hc fun r σ' ⟨h1, h2⟩ => by subst h1; subst h2; exact h
end Go.Vc
namespace Go.Vc
variable {P : Program} {n : Nat} {st : St} {Q : St → Prop} {k : List It}
def addS (D : List (List Nat)) (S : List Nat) (s : Nat) : List (List Nat) := (List.range D.length).map fun i => if S.contains i && !(i == s) then s :: D.getD i [] else D.getD i []
theorem addS_len {D : List (List Nat)} {S : List Nat} {s : Nat} : (addS D S s).length = D.length := by simp [addS]
theorem addS_get {D : List (List Nat)} {S : List Nat} {s i : Nat} : (addS D S s).getD i [] = if i < D.length ∧ i ∈ S ∧ i ≠ s then s :: D.getD i [] else D.getD i [] := by
  unfold addS
  rw [List.getD_eq_getElem?_getD, List.getElem?_map]
  by_cases hi : i < D.length
  · rw [List.getElem?_range hi]
    by_cases hs : i ∈ S
    · by_cases he : i = s
      · simp [he]
      · simp [hi, hs, he]
    · simp [hs]
  · have h1 : (List.range D.length)[i]? = none := List.getElem?_eq_none (by simpa using hi)
    rw [h1, if_neg (fun h => hi h.1)]
    simp [List.getElem?_eq_none (show D.length ≤ i by omega)]
theorem addS_out {D : List (List Nat)} {S : List Nat} {s i : Nat} (h : i ∉ S ∨ i = s) : (addS D S s).getD i [] = D.getD i [] := by
  rw [addS_get, if_neg]
  rintro ⟨_, h1, h2⟩
  exact h.elim (fun h => h h1) h2
theorem readyV_addS {D : List (List Nat)} {S : List Nat} {s : Nat} {L : List Nat} (hp : s ∈ L) : readyV (addS D S s) L = readyV D L := by
  unfold readyV
  rw [addS_len]
  refine List.filter_congr fun i hi => ?_
  rw [addS_get]
  split
  · simp [hp]
  · rfl
theorem anyVC_addS {l : List VIns} {D : List (List Nat)} {S : List Nat} {s : Nat} {K : St → Prop} : ∀ (f : Nat) (L : List Nat) (y : St), s ∈ L → anyVC P l (addS D S s) K f L y → anyVC P l D K f L y
  | 0, L, y, hp, h => ⟨by rw [← readyV_addS hp]; exact h.1, h.2⟩
  | f + 1, L, y, hp, h => by
    unfold anyVC at h ⊢
    rw [readyV_addS hp] at h
    cases hr : readyV D L with
    | nil => rw [hr] at h; exact h
    | cons a r =>
      rw [hr] at h
      refine allV_ofC fun i hi => ?_
      obtain ⟨ins, h1, h2⟩ := allV_memC h i hi
      exact ⟨ins, h1, TC.mono (fun x hx => anyVC_addS f _ x (by simp [hp]) hx) h2⟩
theorem RE_append {l : List VIns} {K : St → Prop} {b : List Nat} : ∀ {a : List Nat}, RE P l K (a ++ b) = RE P l (RE P l K b) a
  | [] => rfl
  | m :: a => by
    funext x
    rw [List.cons_append, RE, RE, RE_append]
theorem itemsF_append {l : List VIns} {bef : List (List Nat)} {b : List Nat} : ∀ {a done : List Nat}, itemsF l bef done (a ++ b) = itemsF l bef done a ++ itemsF l bef (done ++ a) b
  | [], done => by simp [itemsF]
  | e :: a, done => by
    rw [List.cons_append, itemsF, itemsF, itemsF_append]
    simp
theorem RE.mono {l : List VIns} {K K' : St → Prop} (hk : ∀ x, K x → K' x) : ∀ {a : List Nat} {x : St}, RE P l K a x → RE P l K' a x
  | [], x, h => hk x h
  | m :: a, x, h => by
    rw [RE] at h ⊢
    cases hm : l[m / 2]? with
    | none => rw [hm] at h; exact h.elim
    | some i =>
      rw [hm] at h
      simp only at h ⊢
      split at h <;> rename_i he
      · rw [if_pos he]
        exact TC.mono (fun x hx => RE.mono hk hx) h
      · rw [if_neg he]
        exact ⟨h.1, RE.mono hk h.2⟩
structure FN (l : List VIns) (D bef : List (List Nat)) (pre tail S : List Nat) (befs : Nat → List (List Nat)) : Prop where
  e : EOkW l D bef (pre ++ tail)
  effs : ∀ a b x y, pre ++ tail = a ++ b → x ∈ a → y ∈ b → x ∈ pre → isEff l bef x = true → x ∈ befAt bef y
  sub : ∀ s ∈ S, s ∈ tail
  some : ∃ s, s ∈ S
  later : ∀ i ∈ tail, i ∉ S → ∃ s ∈ S, s ∈ befAt bef i
  agree : ∀ s ∈ S, ∀ i ∈ pre, isEff l (befs s) i = isEff l bef i
section
variable {l : List VIns} {D bef : List (List Nat)} {pre tail S : List Nat} {befs : Nat → List (List Nat)} {K : St → Prop} {Ks : Nat → St → Prop} (hF : FN l D bef pre tail S befs)
include hF
theorem ELag.advF {L : List Nat} {y : St} : ∀ {rest done : List Nat} {x : St}, ELag P l D bef pre K L y done rest x →
    ∃ done' rest' x', ELag P l D bef pre K L y done' rest' x' ∧ ∀ h r, rest' = h :: r → isEff l bef h = true
  | [], done, x, h => ⟨done, [], x, h, by simp⟩
  | e :: rest, done, x, h => by
    have hE := hF.e
    cases heff : isEff l bef e with
    | true => exact ⟨done, e :: rest, x, h, fun a r he => by cases he; exact heff⟩
    | false =>
      have hel : e < l.length := hE.lt e (by rw [h.split]; simp)
      obtain ⟨hk, hself⟩ := isEff_plain heff hel (hE.notSelf hel)
      have hnd := (List.nodup_append.1 hE.nodup).1
      rw [h.split] at hnd
      have hed : e ∉ done := fun hm => (List.nodup_append.1 hnd).2.2 e hm e (by simp) rfl
      have heL : e ∉ L := fun hm => hed (h.sub e hm)
      have hgo := h.go
      rw [itemsF, RE_op hel, chks, if_neg (by simp [heff]), List.nil_append] at hgo
      have hT : T P (insAt l e) x (RE P l K (itemsF l bef (done ++ [e]) rest)) := by
        rcases hgo with hgo | ⟨_, hgo⟩
        · exact hgo
        · exfalso
          revert hgo hk
          generalize (insAt l e).op = op
          intro hk hgo
          split at hgo
          · simp [okind] at hk
          · exact hgo
      obtain ⟨v, hv, hgo'⟩ := (T_quiet (by simp [quietI, hk])).1 hT
      refine ELag.advF (rest := rest) (done := done ++ [e]) (x := ⟨putO x.s (insAt l e).dst v, x.σ⟩) ⟨by rw [h.split]; simp, fun i hi => by simp [h.sub i hi], h.nodup, h.closed, fun i hi hie => ?_, h.store, fun d hd => ?_, fun i hi hiL => ?_, hgo'⟩
      · rcases List.mem_append.1 hi with hi | hi
        · exact h.effs i hi hie
        · simp only [List.mem_singleton] at hi; rw [hi, heff] at hie; cases hie
      · have h1 := h.slot d fun i hi hiL => hd i (by simp [hi]) hiL
        have h2 := hd e (by simp) heL
        rw [h1]
        simp only
        cases hde : (insAt l e).dst with
        | none => rfl
        | some d' =>
          rw [hde] at h2
          simp only [putO]
          rw [if_neg (fun e' => h2 (by rw [e']))]
      · by_cases hie : i = e
        · subst hie
          unfold QYd
          cases hd : (insAt l i).dst with
          | none => exact ⟨v, hv⟩
          | some d =>
            simp only
            have e1 : putO x.s (some d) v d = v := by simp [putO]
            rw [e1]
            exact (QY_put (fun t ht => by cases ht; exact hself d hd)).2 hv
        · have hid : i ∈ done := by
            rcases List.mem_append.1 hi with hi | hi
            · exact hi
            · simp only [List.mem_singleton] at hi; exact absurd hi hie
          have hil : i < l.length := hE.lt i (by rw [h.split]; simp [hid])
          refine QYd_put hE hil hel hie (fun d hd hu => ?_) (fun v hv => hv) (h.lag i hid hiL)
          rcases hE.anti i e hil hel hie d hd hu with h1 | ⟨h1, _⟩
          · obtain ⟨a, b, hab⟩ := List.append_of_mem hid
            have h2 := hE.befAhead (a := a) (j := i) (b := b ++ e :: rest ++ tail) (by rw [h.split, hab]; simp) e h1
            exact hed (by rw [hab]; simp [h2])
          · rw [heff] at h1; cases h1
theorem anyVC_fork (hH : ∀ s ∈ S, ∀ (f : Nat) (L : List Nat) (y : St) (done rest : List Nat) (x : St), f + L.length = l.length → ELag P l (addS D S s) (befs s) pre (Ks s) L y done rest x → anyVC P l (addS D S s) K f L y) :
    ∀ (f : Nat) (L : List Nat) (y : St) (done rest : List Nat) (x : St), f + L.length = l.length → (∀ s ∈ S, s ∉ L) → ELag P l D bef pre (fun x => ∀ s ∈ S, Ks s x) L y done rest x → anyVC P l D K f L y := by
  have hE := hF.e
  obtain ⟨s0, hs0⟩ := hF.some
  have hlt : ∀ s ∈ S, s < l.length := fun s hs => hE.lt s (by simp [hF.sub s hs])
  have hpre : ∀ s ∈ S, s ∉ pre := fun s hs hm => (List.nodup_append.1 hE.nodup).2.2 s hm s (hF.sub s hs) rfl
  intro f
  induction f with
  | zero =>
    intro L y done rest x hf hSL h
    exact absurd ((pigeon l.length L h.nodup fun i hi => hE.lt i (by rw [h.split]; simp [h.sub i hi])).2 (by omega) s0 (hlt s0 hs0)) (hSL s0 hs0)
  | succ f ih =>
    intro L y done rest x hf hSL h
    obtain ⟨done, rest, x, h, hhead⟩ := ELag.advF hF h
    have hnd := (List.nodup_append.1 hE.nodup).1
    rw [h.split] at hnd
    have hdp : ∀ i ∈ done, i ∈ pre := fun i hi => by rw [h.split]; simp [hi]
    have hcl : ∀ m ∈ L, ∀ d ∈ D.getD m [], d ∈ L := h.closed
    have hclS : ∀ s, ∀ m ∈ L, ∀ d ∈ (addS D S s).getD m [], d ∈ L := fun s m hm d hd => by
      rw [addS_out (.inl fun hs => hSL m hs hm)] at hd
      exact h.closed m hm d hd
    -- one of them comes: it is known how it goes on
    have take : rest = [] → ∀ s ∈ S, anyVC P l (addS D S s) K (f + 1) L y := fun hr s hs => by
      subst hr
      have hdp' : pre = done := by rw [h.split]; simp
      refine hH s hs (f + 1) L y done [] x hf ⟨by rw [hdp']; simp, h.sub, h.nodup, hclS s, fun i hi hie => h.effs i hi (by rw [← hF.agree s hs i (hdp i hi)]; exact hie), h.store, h.slot, h.lag, ?_⟩
      exact h.go s hs
    have key : allVC P l (anyVC P l D K f) L y (readyV D L) := by
      refine allV_ofC fun i hi => ?_
      have hi0 := hi
      obtain ⟨hil, hiL, hdep⟩ := readyV_mem hi
      rw [hE.dlen] at hil
      by_cases hiS : i ∈ S
      · have hm : i ∈ readyV (addS D S i) L := by
          unfold readyV
          refine List.mem_filter.2 ⟨by rw [addS_len, hE.dlen]; simpa using hil, ?_⟩
          rw [addS_out (.inr rfl)]
          exact (List.mem_filter.1 hi).2
        have hrest : rest = [] := by
          cases hrr : rest with
          | nil => rfl
          | cons a rr =>
            exfalso
            have ha := hhead a rr hrr
            have hapre : a ∈ pre := by rw [h.split, hrr]; simp
            have hb : a ∈ befAt bef i := hF.effs pre tail a i rfl hapre (hF.sub i hiS) hapre ha
            obtain ⟨pa, pb, hpe⟩ := List.append_of_mem (hE.mem i hil)
            have haL : a ∈ L := hE.closed hcl hE.mem (pa.length + 1) pa i pb (by omega) hpe (fun d hd => hdep d hd) a hb
            rw [hrr] at hnd
            exact (List.nodup_append.1 hnd).2.2 a (h.sub a haL) a (by simp) rfl
        have h1 := take hrest i hiS
        unfold anyVC at h1
        cases hr : readyV (addS D S i) L with
        | nil => rw [hr] at hm; cases hm
        | cons a r =>
          rw [hr] at h1 hm
          obtain ⟨ins, g1, g2⟩ := allV_memC h1 i hm
          exact ⟨ins, g1, TC.mono (fun x hx => anyVC_addS f _ x (by simp) hx) g2⟩
      refine ⟨insAt l i, by simp [insAt, List.getElem?_eq_getElem hil], ?_⟩
      obtain ⟨pa, pb, hpe⟩ := List.append_of_mem (hE.mem i hil)
      have hbefL : ∀ j ∈ befAt bef i, j ∈ L := hE.closed hcl hE.mem (pa.length + 1) pa i pb (by omega) hpe hdep
      have huses : ∀ u ∈ (insAt l i).uses, x.s u = y.s u := fun u hu => (h.slot u fun j hj hjL hd => by
        have hjl : j < l.length := hE.lt j (by simp [hdp j hj])
        by_cases hji : j = i
        · subst hji
          cases hje : isEff l bef j with
          | true => exact hjL (h.effs j hj hje)
          | false => exact (isEff_plain hje hjl (hE.notSelf hjl)).2 u hd hu
        · rcases hE.anti i j hil hjl (fun e => hji e.symm) u hd hu with h1 | ⟨h1, _⟩
          · exact hjL (hbefL j h1)
          · exact hjL (h.effs j hj h1)).symm
      by_cases hid : i ∈ done
      · have hie : isEff l bef i = false := by
          cases hie : isEff l bef i with
          | false => rfl
          | true => exact absurd (h.effs i hid hie) hiL
        obtain ⟨hk, _⟩ := isEff_plain hie hil (hE.notSelf hil)
        have hq := h.lag i hid hiL
        obtain ⟨v, hv, hvd⟩ : ∃ v, QY P (insAt l i) x.s x.σ v ∧ ∀ d, (insAt l i).dst = some d → x.s d = v := by
          unfold QYd at hq
          cases hd : (insAt l i).dst with
          | none => rw [hd] at hq; obtain ⟨v, hq⟩ := hq; exact ⟨v, hq, by simp⟩
          | some d => rw [hd] at hq; exact ⟨_, hq, fun d' e => by cases e; rfl⟩
        refine .inl ((T_quiet (by simp [quietI, hk])).2 ⟨v, ?_, ?_⟩)
        · rw [h.store]; exact QY_congr huses hv
        · refine ih (i :: L) _ done rest x (by simp only [List.length_cons]; omega) (fun s hs hm => (List.mem_cons.1 hm).elim (fun e => hiS (e ▸ hs)) (hSL s hs)) ⟨h.split, fun j hj => ?_, List.nodup_cons.2 ⟨hiL, h.nodup⟩, fun m hm d hd => ?_, fun j hj hje => by simp [h.effs j hj hje], h.store, fun d hd => ?_, fun j hj hjL => h.lag j hj (fun hm => hjL (by simp [hm])), h.go⟩
          · rcases List.mem_cons.1 hj with rfl | hj
            · exact hid
            · exact h.sub j hj
          · rcases List.mem_cons.1 hm with rfl | hm
            · simp [hdep d hd]
            · simp [h.closed m hm d hd]
          · simp only
            by_cases hdi : (insAt l i).dst = some d
            · rw [hdi]
              simp only [putO]
              rw [if_pos trivial]
              exact (hvd d hdi).symm
            · have h1 := h.slot d fun j hj hjL => by
                by_cases hji : j = i
                · rw [hji]; exact hdi
                · exact hd j hj (by simp [hji, hjL])
              rw [← h1]
              cases hde : (insAt l i).dst with
              | none => rfl
              | some d' =>
                rw [hde] at hdi
                simp only [putO]
                rw [if_neg (fun e' => hdi (by rw [e']))]
      · have hir : i ∈ rest ++ tail := by
          have := hE.mem i hil
          rw [h.split, List.append_assoc] at this
          exact (List.mem_append.1 this).resolve_left hid
        obtain ⟨hd0, rr, rfl⟩ : ∃ a r, rest = a :: r := by
          cases rest with
          | nil =>
            exfalso
            rw [List.nil_append] at hir
            obtain ⟨s, hs, hsb⟩ := hF.later i hir hiS
            exact hSL s hs (hbefL _ hsb)
          | cons a r => exact ⟨a, r, rfl⟩
        have heff := hhead hd0 rr rfl
        have hh0 : hd0 ∉ done := fun hm => (List.nodup_append.1 hnd).2.2 hd0 hm hd0 (by simp) rfl
        have hih : i = hd0 := by
          rcases List.mem_cons.1 (show i ∈ hd0 :: (rr ++ tail) from hir) with e | hir
          · exact e
          · exfalso
            have := hF.effs (done ++ [hd0]) (rr ++ tail) hd0 i (by rw [h.split]; simp) (by simp) hir (by rw [h.split]; simp) heff
            exact hh0 (h.sub _ (hbefL _ this))
        subst hih
        have hgo := h.go
        rw [show itemsF l bef done (i :: rr) = 2 * i :: (chks l bef done i ++ itemsF l bef (done ++ [i]) rr) from rfl, RE_op hil] at hgo
        refine TC_congr huses h.store.symm (fun r σ' hK => ?_) hgo
        rw [chks, if_pos heff] at hK
        obtain ⟨hck, hgo'⟩ := RE_chks (fun k => !(isEff l bef k) && (!(sfree (insAt l k).op) && !((befAt bef i).contains k))) (fun j hj => hE.lt j (by simp [hdp j hj])) hK
        refine ih (i :: L) _ (done ++ [i]) rr ⟨putO x.s (insAt l i).dst r, σ'⟩ (by simp only [List.length_cons]; omega) (fun s hs hm => (List.mem_cons.1 hm).elim (fun e => hiS (e ▸ hs)) (hSL s hs)) ⟨by rw [h.split]; simp, fun j hj => ?_, List.nodup_cons.2 ⟨hiL, h.nodup⟩, fun m hm d hd => ?_, fun j hj hje => ?_, rfl, fun d hd => ?_, fun j hj hjL => ?_, hgo'⟩
        · rcases List.mem_cons.1 hj with rfl | hj
          · simp
          · simp [h.sub j hj]
        · rcases List.mem_cons.1 hm with rfl | hm
          · simp [hdep d hd]
          · simp [h.closed m hm d hd]
        · rcases List.mem_append.1 hj with hj | hj
          · simp [h.effs j hj hje]
          · simp only [List.mem_singleton] at hj; simp [hj]
        · have h1 : (insAt l i).dst = some d ∨ y.s d = x.s d := by
            by_cases hdi : (insAt l i).dst = some d
            · exact .inl hdi
            · exact .inr (h.slot d fun j hj hjL => hd j (by simp [hj]) (by
                simp only [List.mem_cons, not_or]
                exact ⟨fun e => hid (e ▸ hj), hjL⟩))
          simp only
          cases hde : (insAt l i).dst with
          | none => rw [hde] at h1; exact h1.resolve_left (by simp)
          | some d' =>
            simp only [putO]
            split
            · rfl
            · rename_i hne
              rw [hde] at h1
              exact h1.resolve_left (fun e => hne (by cases e; rfl))
        · have hjd : j ∈ done := by
            rcases List.mem_append.1 hj with hj | hj
            · exact hj
            · simp only [List.mem_singleton] at hj; exact absurd (by simp [hj]) hjL
          have hjL' : j ∉ L := fun hm => hjL (by simp [hm])
          have hjl : j < l.length := hE.lt j (by simp [hdp j hjd])
          have hji : j ≠ i := fun e => hid (e ▸ hjd)
          have hje : isEff l bef j = false := by
            cases hje : isEff l bef j with
            | false => rfl
            | true => exact absurd (h.effs j hjd hje) hjL'
          cases hsf : sfree (insAt l j).op with
          | true =>
            refine QYd_put hE hjl hil hji (fun d hd hu => ?_) (fun v hv => QY_sfree hsf hv) (h.lag j hjd hjL')
            rcases hE.anti j i hjl hil hji d hd hu with h1 | ⟨_, h1⟩
            · obtain ⟨a, b, hab⟩ := List.append_of_mem hjd
              have h2 := hE.befAhead (a := a) (j := j) (b := b ++ i :: rr ++ tail) (by rw [h.split, hab]; simp) i h1
              exact hid (by rw [hab]; simp [h2])
            · exact hjL' (hbefL j h1)
          | false =>
            refine hck j hjd ?_
            simp only [hje, hsf, Bool.not_false, Bool.true_and, Bool.not_eq_true']
            cases hc : (befAt bef i).contains j with
            | false => rfl
            | true => exact absurd (hbefL j (List.contains_iff_mem.1 hc)) hjL'
    cases hr : readyV D L with
    | cons a r => unfold anyVC; rw [hr] at key ⊢; exact key
    | nil =>
      exfalso
      -- else the order with the one ahead would be at its end, too
      have first : ∀ (a b : List Nat), pre ++ tail = a ++ b → (∀ j ∈ a, j ∈ L) → (∃ i ∈ b, i ∉ L) → ∃ a' e b', pre ++ tail = a' ++ e :: b' ∧ (∀ j ∈ a', j ∈ L) ∧ e ∉ L := by
        intro a b
        induction b generalizing a with
        | nil => rintro _ _ ⟨i, h, _⟩; cases h
        | cons e b ihb =>
          intro he ha hx
          by_cases heL : e ∈ L
          · refine ihb (a ++ [e]) (by rw [he]; simp) (fun j hj => ?_) ?_
            · rcases List.mem_append.1 hj with hj | hj
              · exact ha j hj
              · simp only [List.mem_singleton] at hj; rw [hj]; exact heL
            · obtain ⟨i, hi, hiL⟩ := hx
              rcases List.mem_cons.1 hi with rfl | hi
              · exact absurd heL hiL
              · exact ⟨i, hi, hiL⟩
          · exact ⟨a, e, b, he, ha, heL⟩
      obtain ⟨a, e, b, he, ha, heL⟩ := first [] (pre ++ tail) rfl (by simp) ⟨s0, by simp [hF.sub s0 hs0], hSL s0 hs0⟩
      have hel : e < l.length := hE.lt e (by rw [he]; simp)
      have : e ∈ readyV D L := by
        unfold readyV
        refine List.mem_filter.2 ⟨by simp [hE.dlen, hel], ?_⟩
        simp only [Bool.and_eq_true, Bool.not_eq_true', List.all_eq_true]
        exact ⟨by simpa using heL, fun d hd => List.contains_iff_mem.2 (ha d (hE.ahead a e b he d hd))⟩
      rw [hr] at this
      cases this
end
inductive PT where
  | leaf (bef : List (List Nat)) (r : List Nat)
  | fork (bef : List (List Nat)) (m : List Nat) (S : List Nat) (kids : List PT)
def PT.bef : PT → List (List Nat)
  | .leaf b _ => b
  | .fork b _ _ _ => b
def PT.ord : Nat → PT → List Nat
  | 0, _ => []
  | f + 1, t => match t with
    | .leaf _ r => r
    | .fork _ m _ kids => m ++ (match kids with
      | k :: _ => PT.ord f k
      | [] => [])
def kidsB (g : Nat → PT → Bool) : List Nat → List PT → Bool
  | [], [] => true
  | s :: ss, t :: ts => g s t && kidsB g ss ts
  | _, _ => false
theorem kidsB_spec {g : Nat → PT → Bool} : ∀ {S : List Nat} {ts : List PT}, kidsB g S ts = true → ∀ s ∈ S, ∃ t ∈ ts, g s t = true
  | [], [], _, s, hs => by cases hs
  | a :: S, t :: ts, h, s, hs => by
    simp only [kidsB, Bool.and_eq_true] at h
    rcases List.mem_cons.1 hs with rfl | hs
    · exact ⟨t, by simp, h.1⟩
    · obtain ⟨t', h1, h2⟩ := kidsB_spec h.2 s hs
      exact ⟨t', by simp [h1], h2⟩
def forkW (l : List VIns) (D bef : List (List Nat)) (pre tail S : List Nat) : Bool :=
  eOkW l D bef (pre ++ tail) && (pairsB (fun a b => !(pre.contains a) || (!(isEff l bef a) || (befAt bef b).contains a)) (pre ++ tail) &&
  (S.all tail.contains && (!S.isEmpty && tail.all fun i => S.contains i || S.any fun s => (befAt bef i).contains s)))
def chkT (l : List VIns) : Nat → List (List Nat) → List Nat → PT → Bool
  | 0, _, _, _ => false
  | f + 1, D, pre, t => match t with
    | .leaf bef r => eOk l D bef (pre ++ r)
    | .fork bef m S kids => forkW l D bef (pre ++ m) (match kids with
        | k :: _ => PT.ord f k
        | [] => []) S && kidsB (fun s k => ((pre ++ m).all fun i => isEff l k.bef i == isEff l bef i) && chkT l f (addS D S s) (pre ++ m) k) S kids
def GT (P : Program) (l : List VIns) (K : St → Prop) : Nat → List Nat → PT → St → Prop
  | 0, _, _, _ => False
  | f + 1, pre, t, x => match t with
    | .leaf bef r => RE P l K (itemsF l bef pre r) x
    | .fork bef m _ kids => RE P l (fun x => ∀ k ∈ kids, GT P l K f (pre ++ m) k x) (itemsF l bef pre m) x
theorem ELag.more {l : List VIns} {D bef : List (List Nat)} {pre m : List Nat} {K : St → Prop} {L : List Nat} {y : St} {done rest : List Nat} {x : St} (h : ELag P l D bef pre (RE P l K (itemsF l bef pre m)) L y done rest x) :
    ELag P l D bef (pre ++ m) K L y done (rest ++ m) x := by
  refine ⟨by rw [h.split]; simp, h.sub, h.nodup, h.closed, h.effs, h.store, h.slot, h.lag, ?_⟩
  rw [itemsF_append, RE_append, ← h.split]
  exact h.go
theorem ELag.mono {l : List VIns} {D bef : List (List Nat)} {pre : List Nat} {K K' : St → Prop} (hk : ∀ x, K x → K' x) {L : List Nat} {y : St} {done rest : List Nat} {x : St} (h : ELag P l D bef pre K L y done rest x) :
    ELag P l D bef pre K' L y done rest x := ⟨h.split, h.sub, h.nodup, h.closed, h.effs, h.store, h.slot, h.lag, RE.mono hk h.go⟩
theorem chkT_ok {l : List VIns} {K : St → Prop} : ∀ (fu : Nat) (D : List (List Nat)) (pre : List Nat) (t : PT), chkT l fu D pre t = true → ∀ (f : Nat) (L : List Nat) (y : St) (done rest : List Nat) (x : St), f + L.length = l.length →
    (∀ i ∈ L, i ∈ pre) → ELag P l D t.bef pre (GT P l K fu pre t) L y done rest x → anyVC P l D K f L y
  | 0, _, _, _, h, _, _, _, _, _, _, _, _, _ => by cases h
  | fu + 1, D, pre, t, h, f, L, y, done, rest, x, hf, hLp, hl => by
    cases t with
    | leaf bef r => exact anyVC_of_lag (eOk_spec h) f L y done (rest ++ r) x hf (ELag.more hl)
    | fork bef m S kids =>
      simp only [chkT, Bool.and_eq_true] at h
      obtain ⟨h1, h2⟩ := h
      generalize (match kids with
        | k :: _ => PT.ord fu k
        | [] => []) = tail at h1
      simp only [forkW, Bool.and_eq_true] at h1
      obtain ⟨g1, g2, g3, g4, g5⟩ := h1
      have hk := kidsB_spec h2
      have hW := eOkW_spec g1
      have hF : ∀ kid : Nat → PT, (∀ s ∈ S, ((pre ++ m).all fun i => isEff l (kid s).bef i == isEff l bef i) = true) → FN l D bef (pre ++ m) tail S (fun s => (kid s).bef) := fun kid hkid => by
        refine ⟨hW, fun a b u v he hu hv hup hue => ?_, fun s hs => by simpa using List.all_eq_true.1 g3 s hs, ?_, fun i hi hiS => ?_, fun s hs i hi => by simpa using List.all_eq_true.1 (hkid s hs) i hi⟩
        · rw [he] at g2
          have := pairsB_spec g2 hu hv
          simp only [Bool.or_eq_true, Bool.not_eq_true', List.contains_iff_mem, hue, Bool.true_eq_false, false_or] at this
          rcases this with h | h
          · have hc : (pre ++ m).contains u = true := List.contains_iff_mem.2 hup
            rw [hc] at h; cases h
          · exact h
        · cases S with
          | nil => simp at g4
          | cons s S => exact ⟨s, by simp⟩
        · have := List.all_eq_true.1 g5 i hi
          simp only [Bool.or_eq_true, List.contains_iff_mem, List.any_eq_true] at this
          exact this.resolve_left hiS
      have hch : ∀ s, ∃ k : PT, s ∈ S → (k ∈ kids ∧ (((pre ++ m).all fun i => isEff l k.bef i == isEff l bef i) = true ∧ chkT l fu (addS D S s) (pre ++ m) k = true)) := fun s => by
        by_cases hs : s ∈ S
        · obtain ⟨k, h3, h4⟩ := hk s hs
          simp only [Bool.and_eq_true] at h4
          exact ⟨k, fun _ => ⟨h3, h4⟩⟩
        · exact ⟨.leaf [] [], fun h => absurd h hs⟩
      obtain ⟨kid, hkid⟩ := Classical.axiomOfChoice hch
      have hFN := hF kid fun s hs => (hkid s hs).2.1
      have hSpre : ∀ s ∈ S, s ∉ pre ++ m := fun s hs hm => (List.nodup_append.1 hW.nodup).2.2 s hm s (hFN.sub s hs) rfl
      refine anyVC_fork (Ks := fun s => GT P l K fu (pre ++ m) (kid s)) hFN (fun s hs f L y done rest x hf hl => ?_) f L y done (rest ++ m) x hf (fun s hs hm => hSpre s hs (List.mem_append_left _ (hLp s hm))) ?_
      · refine chkT_ok fu _ _ _ (hkid s hs).2.2 f L y done rest x hf (fun i hi => ?_) hl
        have := hl.sub i hi
        rw [hl.split]; simp [this]
      · exact ELag.mono (fun x hx s hs => hx (kid s) (hkid s hs).1) (ELag.more hl)
theorem Runs.regT (hm : P.follows .mixedOrders = true) {l : List VIns} {deps : List (List Nat)} (fu : Nat) (t : PT) (hB : chkT l fu deps [] t = true) (h : GT P l (fun x => Runs P n k x Q) fu [] t st) : Runs P n (.code (.regA l deps) :: k) st Q := by
  refine Runs.regAC hm (chkT_ok fu deps [] t hB l.length [] st [] [] st (by simp) (by simp) ⟨rfl, by simp, List.nodup_nil, by simp, by simp, rfl, fun _ _ => rfl, by simp, ?_⟩)
  exact h
end Go.Vc
namespace Go.Vc
def eqLQ (g : V → V → Bool) : List V → List V → Bool
  | [], [] => true
  | v :: vs, u :: us => @Bool.casesOn (fun _ => Bool) (g v u) false (eqLQ g vs us)
  | _, _ => false
def eqVQ : Nat → V → V → Bool
  | 0, _, _ => false
  | f + 1, v, u => match v with
    | .int k n => match u with
      | .int k' n' => eqK k k' && eqQ n n'
      | _ => false
    | .bool b => match u with
      | .bool b' => b == b'
      | _ => false
    | .str b => match u with
      | .str b' => decide (b = b')
      | _ => false
    | .nils => match u with
      | .nils => true
      | _ => false
    | .nilp => match u with
      | .nilp => true
      | _ => false
    | .own a b c => match u with
      | .own a' b' c' => Nat.beq a a' && (Nat.beq b b' && Nat.beq c c')
      | _ => false
    | .ptr a b c => match u with
      | .ptr a' b' c' => Nat.beq a a' && (Nat.beq b b' && Nat.beq c c')
      | _ => false
    | .sl sz rows => match u with
      | .sl sz' rows' => Nat.beq sz sz' && eqLQ (eqVQ f) rows rows'
      | _ => false
    | .rp x => match u with
      | .rp y => eqVQ f x y
      | _ => false
    | .fn g cs => match u with
      | .fn g' ds => decide (g = g') && eqLQ (eqVQ f) cs ds
      | _ => false
    | .agg cs => match u with
      | .agg ds => eqLQ (eqVQ f) cs ds
      | _ => false
    | .tup cs => match u with
      | .tup ds => eqLQ (eqVQ f) cs ds
      | _ => false
    | .iface a x => match u with
      | .iface b y => Nat.beq a b && eqVQ f x y
      | _ => false
    | .niliface => match u with
      | .niliface => true
      | _ => false
    | .nilfn => match u with
      | .nilfn => true
      | _ => false
    | _ => false
theorem eqLQ_eq {g : V → V → Bool} (hg : ∀ v u, g v u = true → v = u) : ∀ {l m : List V}, eqLQ g l m = true → l = m
  | [], [], _ => rfl
  | v :: vs, u :: us, h => by
    simp only [eqLQ, bcase] at h
    split at h
    · rename_i hv
      rw [hg v u hv, eqLQ_eq hg h]
    · cases h
  | [], _ :: _, h => by simp [eqLQ] at h
  | _ :: _, [], h => by simp [eqLQ] at h
theorem eqVQ_eq : ∀ (f : Nat) (v u : V), eqVQ f v u = true → v = u
  | 0, _, _, h => by simp [eqVQ] at h
  | f + 1, v, u, h => by
    have hL : ∀ {l m : List V}, eqLQ (eqVQ f) l m = true → l = m := fun h => eqLQ_eq (eqVQ_eq f) h
    cases v <;> cases u <;> simp only [eqVQ, Bool.false_eq_true, Bool.and_eq_true, decide_eq_true_eq, beq_iff_eq] at h <;> try rfl
    case int.int => rw [eqQ_iff h.2, of_decide_eq_true (p := _ = _) h.1]
    case bool.bool => rw [h]
    case str.str => rw [h]
    case own.own => rw [Nat.eq_of_beq_eq_true h.1, Nat.eq_of_beq_eq_true h.2.1, Nat.eq_of_beq_eq_true h.2.2]
    case ptr.ptr => rw [Nat.eq_of_beq_eq_true h.1, Nat.eq_of_beq_eq_true h.2.1, Nat.eq_of_beq_eq_true h.2.2]
    case sl.sl => rw [Nat.eq_of_beq_eq_true h.1, hL h.2]
    case rp.rp => rw [eqVQ_eq f _ _ h]
    case fn.fn => rw [h.1, hL h.2]
    case agg.agg => rw [hL h]
    case tup.tup => rw [hL h]
    case iface.iface => rw [Nat.eq_of_beq_eq_true h.1, eqVQ_eq f _ _ h.2]
section
variable {R : Nat → Nat → Prop}
mutual
/-- numbers stand for one number -/
theorem VRel.fun (hf : ∀ c a a', R c a → R c a' → a = a') : ∀ (v u u' : V), VRel R v u → VRel R v u' → u = u'
  | .own id off len, u, u', h, h' => by simp only [VRel] at h h'; obtain ⟨i, rfl, r⟩ := h; obtain ⟨j, rfl, r'⟩ := h'; rw [hf _ _ _ r r']
  | .ptr id i k, u, u', h, h' => by simp only [VRel] at h h'; obtain ⟨i, rfl, r⟩ := h; obtain ⟨j, rfl, r'⟩ := h'; rw [hf _ _ _ r r']
  | .sl sz rows, u, u', h, h' => by simp only [VRel] at h h'; obtain ⟨i, rfl, r⟩ := h; obtain ⟨j, rfl, r'⟩ := h'; rw [VRelL.fun hf _ _ _ r r']
  | .rp v, u, u', h, h' => by simp only [VRel] at h h'; obtain ⟨i, rfl, r⟩ := h; obtain ⟨j, rfl, r'⟩ := h'; rw [VRel.fun hf _ _ _ r r']
  | .fn f caps, u, u', h, h' => by simp only [VRel] at h h'; obtain ⟨i, rfl, r⟩ := h; obtain ⟨j, rfl, r'⟩ := h'; rw [VRelL.fun hf _ _ _ r r']
  | .bm f caps, u, u', h, h' => by simp only [VRel] at h h'; obtain ⟨i, rfl, r⟩ := h; obtain ⟨j, rfl, r'⟩ := h'; rw [VRelL.fun hf _ _ _ r r']
  | .iface t v, u, u', h, h' => by simp only [VRel] at h h'; obtain ⟨i, rfl, r⟩ := h; obtain ⟨j, rfl, r'⟩ := h'; rw [VRel.fun hf _ _ _ r r']
  | .agg c, u, u', h, h' => by simp only [VRel] at h h'; obtain ⟨i, rfl, r⟩ := h; obtain ⟨j, rfl, r'⟩ := h'; rw [VRelL.fun hf _ _ _ r r']
  | .tup c, u, u', h, h' => by simp only [VRel] at h h'; obtain ⟨i, rfl, r⟩ := h; obtain ⟨j, rfl, r'⟩ := h'; rw [VRelL.fun hf _ _ _ r r']
  | .undef, u, u', h, h' => by simp only [VRel] at h h'; rw [h, h']
  | .int k n, u, u', h, h' => by simp only [VRel] at h h'; rw [h, h']
  | .bool b, u, u', h, h' => by simp only [VRel] at h h'; rw [h, h']
  | .str s, u, u', h, h' => by simp only [VRel] at h h'; rw [h, h']
  | .nils, u, u', h, h' => by simp only [VRel] at h h'; rw [h, h']
  | .nilp, u, u', h, h' => by simp only [VRel] at h h'; rw [h, h']
  | .nilfn, u, u', h, h' => by simp only [VRel] at h h'; rw [h, h']
  | .niliface, u, u', h, h' => by simp only [VRel] at h h'; rw [h, h']
  | .raw v, u, u', h, h' => by simp only [VRel] at h h'; rw [h, h']
  | .obj v, u, u', h, h' => by simp only [VRel] at h h'; rw [h, h']
  | .gp v, u, u', h, h' => by simp only [VRel] at h h'; rw [h, h']
  | .yl v, u, u', h, h' => by simp only [VRel] at h h'; obtain ⟨i, rfl, r⟩ := h; obtain ⟨j, rfl, r'⟩ := h'; rw [hf _ _ _ r r']
  | .mp v, u, u', h, h' => by simp only [VRel] at h h'; rw [h, h']
theorem VRelL.fun (hf : ∀ c a a', R c a → R c a' → a = a') : ∀ (v u u' : List V), VRelL R v u → VRelL R v u' → u = u'
  | [], u, u', h, h' => by simp only [VRelL] at h h'; rw [h, h']
  | v :: vs, u, u', h, h' => by
    simp only [VRelL] at h h'
    obtain ⟨a, as1, rfl, r, rs⟩ := h
    obtain ⟨b, bs, rfl, r', rs'⟩ := h'
    rw [VRel.fun hf _ _ _ r r', VRelL.fun hf _ _ _ rs rs']
end
end
def invB (dst : Option Nat) (tbl : List (TypeId × FuncId)) (rx : VX) (xs : List VX) : BI := ⟨fun call fl cs => match rx.ev cs.sf with
  | .iface t v => match tbl.lookup t with
    | some f => callIn dst cs (call f (v :: xs.map (·.ev cs.sf)) cs.σ cs.nxt fl)
    | none => none
  | _ => none⟩
def callB2 (dst : Option Nat) (fx : VX) (xs : List VX) : BI := ⟨fun call fl cs => match fx.ev cs.sf with
  | .fn f caps => callIn dst cs (call f (xs.map (·.ev cs.sf) ++ caps) cs.σ cs.nxt fl)
  | .bm f first => callIn dst cs (call f (first ++ xs.map (·.ev cs.sf)) cs.σ cs.nxt fl)
  | _ => none⟩
def nilfB (dst : Option Nat) (neg : Bool) (x : VX) : BI := ⟨fun _ _ cs => match x.ev cs.sf with
  | .nilfn => some (cs.put dst (.bool (true != neg)))
  | .fn _ _ => some (cs.put dst (.bool (false != neg)))
  | _ => none⟩
def store0B (dst : Option Nat) (xa xv : VX) : BI := ⟨fun _ _ cs => match xa.ev cs.sf with
  | .rp _ => (match xv.ev cs.sf with
    | .agg [] => some (cs.put dst (.tup []))
    | _ => none)
  | _ => none⟩
def niliB (dst : Option Nat) (neg : Bool) (x : VX) : BI := ⟨fun _ _ cs => match x.ev cs.sf with
  | .niliface => some (cs.put dst (.bool (true != neg)))
  | .iface _ _ => some (cs.put dst (.bool (false != neg)))
  | _ => none⟩
def nilsB (dst : Option Nat) (x : VX) : BI := ⟨fun _ _ cs => match x.ev cs.sf with
  | .nils => some (cs.put dst (.bool true))
  | .sl _ (_ :: _) => some (cs.put dst (.bool false))
  | .own _ _ (_ + 1) => some (cs.put dst (.bool false))
  | _ => none⟩
def compO2 (dst : Option Nat) (op : VOp) : BI := match op with
  | .more (.inv tbl) (rx :: xs) => invB dst tbl rx xs
  | .more .alloc0 [] => ⟨fun _ _ cs => some (cs.put dst (.rp (.agg [])))⟩
  | .more .store0 [xa, xv] => store0B dst xa xv
  | .call fx xs => callB2 dst fx xs
  | .binB neg x (.c (.iface 2 .undef)) => nilfB dst neg x
  | .binB neg x (.c (.iface 1 .undef)) => niliB dst neg x
  | .binB false x (.c (.iface 0 .undef)) => nilsB dst x
  | op => compO false dst op
def compI2 (i : VIns) : BI := match i.g with
  | none => compO2 i.dst i.op
  | some (x, b) => ⟨fun call fl cs => guardB i.dst b (compO2 i.dst i.op) call fl cs (x.ev cs.sf)⟩
def evOps2N (call : CallT) (fl m : Nat) : List VIns → CS → Out :=
  @Nat.rec (fun _ => List VIns → CS → Out) (fun _ _ => .bad)
    (fun _ ih l cs => @List.casesOn VIns (fun _ => Out) l (.nx cs)
      (fun i l' => @BI.casesOn (fun _ => Out) (compI2 i) fun f => @Option.casesOn CS (fun _ => Out) (f call fl cs) .bad (ih l'))) m
def idLQ (g : V → List Nat) : List V → List Nat
  | [] => []
  | v :: vs => g v ++ idLQ g vs
def idsQ : Nat → Tr (Option Ob) → V → List Nat
  | 0, _, _ => []
  | f + 1, σ, v => match v with
    | .own id off len => id :: (match getP none id σ with
      | some ob => idLQ (idsQ f σ) ((ob.rows.drop off).take len)
      | none => [])
    | .ptr id i _ => id :: (match getP none id σ with
      | some ob => (match ob.rows[i]? with
        | some r => idsQ f σ r
        | none => [])
      | none => [])
    | .sl _ rows => idLQ (idsQ f σ) rows
    | .agg cs => idLQ (idsQ f σ) cs
    | .tup cs => idLQ (idsQ f σ) cs
    | .fn _ cs => idLQ (idsQ f σ) cs
    | .bm _ cs => idLQ (idsQ f σ) cs
    | .iface _ u => idsQ f σ u
    | _ => []
def drawIn (dst : Option Nat) (cs : CS) : Option Rs → Option CS
  | some r => @Bool.casesOn (fun _ => Option CS) r.v.noid (@Bool.casesOn (fun _ => Option CS) ((idsQ 40 r.σ r.v).all fun c => Nat.ble cs.nxt c) none (match fzQ 40 r.σ r.v with
    | some v => some (cs.put dst v)
    | none => none)) (some (cs.put dst r.v))
  | none => none
def callB3 (dst : Option Nat) (fx : VX) (xs : List VX) : BI := ⟨fun call _ cs => match fx.ev cs.sf with
  | .fn f caps => drawIn dst cs (call f (xs.map (·.ev cs.sf) ++ caps) cs.σ cs.nxt cs.nxt)
  | _ => none⟩
def compO3 (dst : Option Nat) (op : VOp) : BI := match op with
  | .call fx xs => callB3 dst fx xs
  | op => compO true dst op
def compI3 (i : VIns) : BI := match i.g with
  | none => compO3 i.dst i.op
  | some (x, b) => ⟨fun call fl cs => guardB i.dst b (compO3 i.dst i.op) call fl cs (x.ev cs.sf)⟩
def evOps3N (call : CallT) (fl m : Nat) : List VIns → CS → Out :=
  @Nat.rec (fun _ => List VIns → CS → Out) (fun _ _ => .bad)
    (fun _ ih l cs => @List.casesOn VIns (fun _ => Out) l (.nx cs)
      (fun i l' => @BI.casesOn (fun _ => Out) (compI3 i) fun f => @Option.casesOn CS (fun _ => Out) (f call fl cs) .bad (ih l'))) m
def evOps2 (draw : Bool) (call : CallT) (fl : Nat) (l : List VIns) (cs : CS) : Out := match draw with
  | true => evOps3N call fl 1000 l cs
  | false => evOps2N call fl 1000 l cs
def befQ : List (List Nat) → List (List Nat) → List (List Nat)
  | acc, [] => acc
  | acc, d :: ds => befQ (acc ++ [(d ++ d.flatMap fun i => acc.getD i []).eraseDups]) ds
def readyP (D : List (List Nat)) (n : Nat) (done : List Nat) : List Nat := (List.range n).filter fun i => !(done.contains i) && (D.getD i []).all done.contains
def stepM (l : List VIns) (D bef : List (List Nat)) (n : Nat) : Nat → List Nat → List Nat → List Nat × List Nat
  | 0, _, m => (m, [])
  | f + 1, done, m => match readyP D n done with
    | [] => (m, [])
    | i :: is => match (i :: is).find? (fun i => !(isEff l bef i)) with
      | some i => stepM l D bef n f (done ++ [i]) (m ++ [i])
      | none => match is with
        | [] => stepM l D bef n f (done ++ [i]) (m ++ [i])
        | _ :: _ => (m, i :: is)
def befS (bef : List (List Nat)) (S : List Nat) (s : Nat) : Nat → List (List Nat) → List (List Nat)
  | _, [] => []
  | j, b :: r => (if !(j == s) && (S.contains j || b.any fun i => S.contains i && !(i == s)) then (s :: (befAt bef s ++ b)).eraseDups else b) :: befS bef S s (j + 1) r
def planT (l : List VIns) : Nat → List (List Nat) → List (List Nat) → List Nat → PT
  | 0, _, _, _ => .leaf [] []
  | f + 1, D, bef, done => match stepM l D bef l.length (l.length + 1) done [] with
    | (m, []) => .leaf bef m
    | (m, s :: S) => .fork bef m (s :: S) ((s :: S).map fun q => planT l f (addS D (s :: S) q) (befS bef (s :: S) q 0 bef) (done ++ m))
def planC (l : List VIns) (deps : List (List Nat)) (t : PT) : Option PT := @Bool.casesOn (fun _ => Option PT) (chkT l 8 deps [] t) none (some t)
def planR (l : List VIns) (deps : List (List Nat)) : Option PT := planC l deps (planT l 7 deps (befQ [] deps) [])
def chkQ (call : CallT) (fl : Nat) (i : VIns) (cs : CS) : Bool := @Bool.casesOn (fun _ => Bool) (Nat.beq (okind i.op) 0) false (match (compI true i).f call fl cs with
  | some cs' => match i.dst with
    | some d => eqVQ 40 (cs'.sf d) (cs.sf d)
    | none => true
  | none => false)
def itsQ (call : CallT) (fl : Nat) (l : List VIns) : List Nat → CS → Out
  | [], cs => .nx cs
  | m :: ms, cs => match l[m / 2]? with
    | none => .bad
    | some i => @Bool.casesOn (fun _ => Out) (Nat.beq (m % 2) 0)
        (@Bool.casesOn (fun _ => Out) (chkQ call fl i cs) .bad (itsQ call fl l ms cs))
        (@Bool.casesOn (fun _ => Out) (Nat.ble (okind i.op) 3) .bad (match (compI false i).f call fl cs with
          | some cs' => itsQ call fl l ms cs'
          | none => .bad))
def rho (n N r c : Nat) : Nat := @Bool.casesOn (fun _ => Nat) (Nat.blt c n) (@Bool.casesOn (fun _ => Nat) (Nat.blt c N) c (@Bool.casesOn (fun _ => Nat) (Nat.blt (Nat.add c r) N) (Nat.sub (Nat.add c r) (Nat.sub N n)) (Nat.add c r))) c
def renV (ρ : Nat → Nat) : Nat → V → V → Bool
  | 0, _, _ => false
  | f + 1, v, u => match v with
    | .int k n => match u with
      | .int k' n' => eqK k k' && eqQ n n'
      | _ => false
    | .bool b => match u with
      | .bool b' => b == b'
      | _ => false
    | .str b => match u with
      | .str b' => decide (b = b')
      | _ => false
    | .nils => match u with
      | .nils => true
      | _ => false
    | .nilp => match u with
      | .nilp => true
      | _ => false
    | .nilfn => match u with
      | .nilfn => true
      | _ => false
    | .niliface => match u with
      | .niliface => true
      | _ => false
    | .own a b c => match u with
      | .own a' b' c' => Nat.beq (ρ a) a' && (Nat.beq b b' && Nat.beq c c')
      | _ => false
    | .ptr a b c => match u with
      | .ptr a' b' c' => Nat.beq (ρ a) a' && (Nat.beq b b' && Nat.beq c c')
      | _ => false
    | .yl a => match u with
      | .yl a' => Nat.beq (ρ a) a'
      | _ => false
    | .sl sz rows => match u with
      | .sl sz' rows' => Nat.beq sz sz' && eqLQ (renV ρ f) rows rows'
      | _ => false
    | .rp x => match u with
      | .rp y => renV ρ f x y
      | _ => false
    | .iface t x => match u with
      | .iface t' y => Nat.beq t t' && renV ρ f x y
      | _ => false
    | .fn g cs => match u with
      | .fn g' ds => Nat.beq g g' && eqLQ (renV ρ f) cs ds
      | _ => false
    | .bm g cs => match u with
      | .bm g' ds => Nat.beq g g' && eqLQ (renV ρ f) cs ds
      | _ => false
    | .agg cs => match u with
      | .agg ds => eqLQ (renV ρ f) cs ds
      | _ => false
    | .tup cs => match u with
      | .tup ds => eqLQ (renV ρ f) cs ds
      | _ => false
    | _ => false
def renO (ρ : Nat → Nat) (a b : Option Ob) : Bool := match a with
  | none => (match b with
    | none => true
    | some _ => false)
  | some x => (match b with
    | none => false
    | some y => Nat.beq x.elem y.elem && (Nat.beq x.sz y.sz && eqLQ (renV ρ 40) x.rows y.rows))
def trB {α : Type} (f : α → α → Bool) : Tr α → Tr α → Bool
  | .e, .e => true
  | .n l v r, .n l' v' r' => @Bool.casesOn (fun _ => Bool) (f v v') false (@Bool.casesOn (fun _ => Bool) (trB f l l') false (trB f r r'))
  | _, _ => false
def cutQ (σ : Tr (Option Ob)) (n : Nat) : Nat → Tr (Option Ob)
  | 0 => σ
  | m + 1 => setP none none (Nat.add n m) (cutQ σ n m)
def rowsB (ρ : Nat → Nat) (A B : Tr (Option Ob)) (n : Nat) : Nat → Bool
  | 0 => true
  | m + 1 => @Bool.casesOn (fun _ => Bool) (renO ρ (getP none (Nat.add n m) A) (getP none (ρ (Nat.add n m)) B)) false (rowsB ρ A B n m)
def renC (n N r : Nat) (A B : CS) : Bool := @Bool.casesOn (fun _ => Bool) (Nat.ble r (Nat.sub N n)) false (@Bool.casesOn (fun _ => Bool) (rowsB (rho n N r) A.σ B.σ n (Nat.sub N n)) false
  (@Bool.casesOn (fun _ => Bool) (trB (renV (rho n N r) 40) A.s B.s) false (trB (renO (rho n N r)) (cutQ A.σ n (Nat.sub N n)) (cutQ B.σ n (Nat.sub N n)))))
def someR (f : Nat → Bool) : Nat → Bool
  | 0 => f 0
  | m + 1 => @Bool.casesOn (fun _ => Bool) (f (Nat.succ m)) (someR f m) true
def chkR (fl n : Nat) (A B : CS) : Bool := @Bool.casesOn (fun _ => Bool) (Nat.beq A.nxt B.nxt && (Nat.ble fl n && Nat.ble n A.nxt)) false (someR (fun r => renC n A.nxt r A B) (Nat.sub A.nxt n))
def kidsE (g : PT → Out) (fl n : Nat) (A : CS) : List PT → Bool
  | [] => true
  | k :: r => match g k with
    | .nx B => @Bool.casesOn (fun _ => Bool) (chkR fl n A B) false (kidsE g fl n A r)
    | _ => false
def kidsO (g : PT → Out) (fl n : Nat) : List PT → Out
  | [] => .bad
  | k :: r => match g k with
    | .nx A => @Bool.casesOn (fun _ => Out) (kidsE g fl n A r) .bad (.nx A)
    | _ => .bad
def evT (call : CallT) (fl : Nat) (l : List VIns) : Nat → List Nat → PT → CS → Out
  | 0, _, _, _ => .bad
  | f + 1, pre, t, cs => match t with
    | .leaf bef r => itsQ call fl l (itemsF l bef pre r) cs
    | .fork bef m _ kids => match itsQ call fl l (itemsF l bef pre m) cs with
      | .nx cs0 => kidsO (fun k => evT call fl l f (pre ++ m) k cs0) fl cs0.nxt kids
      | _ => .bad
def evA (call : CallT) (fl : Nat) (l : List VIns) (deps : List (List Nat)) (cs : CS) : Out := @Option.casesOn PT (fun _ => Out) (planR l deps) .bad fun t => evT call fl l 8 [] t cs
def delLQ : List Nat → Tr (Option Ob) → Tr (Option Ob)
  | [], σ => σ
  | c :: cs, σ => delLQ cs (match getP none c σ with
    | some _ => setP none none c σ
    | none => σ)
def putLQ : List Nat → List V → Tr V → Tr V
  | p :: ps, x :: xs, s => putLQ ps xs (setP (.tup []) x p s)
  | _, _, s => s
def rngQ (s0 : Tr V) (ps : List Nat) (body : CS → Out) : List (List V) → Tr (Option Ob) → Nat → Out
  | [], σ, nxt => .nx ⟨s0, σ, nxt⟩
  | x :: xs, σ, nxt => match body ⟨putLQ ps x s0, σ, nxt⟩ with
    | .nx cs => rngQ s0 ps body xs cs.σ cs.nxt
    | .ex id cs => .ex id ⟨s0, cs.σ, cs.nxt⟩
    | .rt cs => .rt ⟨s0, cs.σ, cs.nxt⟩
    | .bad => .bad
def bodyQ (run : Nat → VCode → CS → Out) (a b : VCode) (cs : CS) : Out := match run 0 a cs with
  | .nx cs' => run 0 b cs'
  | _ => .bad
def rngG (run : Nat → VCode → CS → Out) (d : Nat) (gf : FuncId) (ps : List Nat) (a b : VCode) (cs : CS) (ids : List Nat) (caps : List V) (xs : List (List V)) : Out :=
  @Bool.casesOn (fun _ => Out) (xs.all fun x => noidL x && Nat.beq x.length ps.length) .bad
    (rngQ (setP (.tup []) (.fn gf caps) d cs.s) ps (bodyQ run a b) xs (delLQ ids cs.σ) cs.nxt)
def evR (run : Nat → VCode → CS → Out) (I : FuncId → Option (List V → Option (List (List V)))) (fl : Nat) (g : VX) (ps : List Nat) (a b : VCode) (cs : CS) : Out :=
  @Bool.casesOn (fun _ => Out) (Nat.beq fl 0) .bad (match g with
    | .t d => match cs.sf d with
      | .fn gf caps => match I gf with
        | some h => match fzLQ (fzQ 40 cs.σ) caps with
          | some caps' => match h caps' with
            | some xs => rngG run d gf ps a b cs (idLQ (idsQ 40 cs.σ) caps) caps' xs
            | none => .bad
          | none => .bad
        | none => .bad
      | _ => .bad
    | .c _ => .bad)
structure Tb where
  fn : FuncId → Option Fk
  it : FuncId → Option (List V → Option (List (List V)))
def evL2 (T : Tb) (fuel : Nat) : Nat → VCode → CS → Out :=
  @Nat.rec (fun _ => Nat → VCode → CS → Out) (fun _ _ _ => .bad)
    (fun _ ih fl c cs => match c with
      | .skip => .nx cs
      | .reg draw l => evOps2 draw (evF2 ih T.fn) fl l cs
      | .seq a b => onNx (ih fl a cs) fun cs' => ih fl b cs'
      | .cond c a b => onB (c.ev cs.sf) (ih fl a cs) (ih fl b cs)
      | .block id a => onEx id (ih fl a cs)
      | .loop a => onNx (ih fl a cs) fun cs' => ih fl (.loop a) cs'
      | .exit id => .ex id cs
      | .ret => .rt cs
      | .rangeF g ps a b => evR ih T.it fl g ps a b cs
      | .regA l deps => evA (evF2 ih T.fn) fl l deps cs
      | .regL l e => onNx (evOps2 true (evF2 ih T.fn) fl l cs) fun cs' => evOps2 false (evF2 ih T.fn) fl e cs'
      | .bad => .bad) fuel
end Go.Vc
namespace Go.Vc
variable {P : Program} {n : Nat}
def okCode2 : VCode → Bool
  | .reg _ l => l.all okIns
  | .seq a b => okCode2 a && okCode2 b
  | .cond c a b => okX c && (okCode2 a && okCode2 b)
  | .block _ a => okCode2 a
  | .loop a => okCode2 a
  | .rangeF _ _ a b => okCode2 a && okCode2 b
  | .regA l _ => l.all okIns
  | .regL l e => l.all okIns && e.all okIns
  | _ => true
def okFn2 (f : VFn) : Bool := okCode2 f.code && f.res.all okRes
theorem cop_alloc0 {o : Op} {xs : List VX} (h : cop P n o = .more .alloc0 xs) : ∃ t, o = .alloc t ∧ nullT P t = true := by
  cases o
  case alloc t =>
    simp only [cop] at h
    split at h
    · cases h
    · split at h
      · rename_i hn; exact ⟨t, rfl, hn⟩
      · cases h
  case call c =>
    obtain ⟨callee, args, argTypes⟩ := c
    cases callee
    case builtin b => cases b <;> simp only [cop] at h <;> (repeat' split at h) <;> cases h
    all_goals (simp only [cop] at h; cases h)
  case unOp op t x => cases op <;> simp only [cop] at h <;> cases h
  case makeFunc f a b => cases f <;> simp only [cop] at h <;> (repeat' split at h) <;> cases h
  case binOp op t x y yt => cases op <;> simp only [cop, nilB] at h <;> (repeat' split at h) <;> cases h
  all_goals (simp only [cop] at h; (repeat' split at h) <;> cases h)
theorem cop_store0 {o : Op} {xs : List VX} (h : cop P n o = .more .store0 xs) : ∃ t x y, o = .store t x y ∧ nullT P t = true ∧ xs = [cx n x, cx n y] := by
  cases o
  case store t x y =>
    simp only [cop] at h
    split at h
    · cases h
    · split at h
      · rename_i hn
        simp only [VOp.more.injEq, true_and] at h
        exact ⟨t, x, y, rfl, hn, h.symm⟩
      · cases h
  case call c =>
    obtain ⟨callee, args, argTypes⟩ := c
    cases callee
    case builtin b => cases b <;> simp only [cop] at h <;> (repeat' split at h) <;> cases h
    all_goals (simp only [cop] at h; cases h)
  case unOp op t x => cases op <;> simp only [cop] at h <;> cases h
  case makeFunc f a b => cases f <;> simp only [cop] at h <;> (repeat' split at h) <;> cases h
  case binOp op t x y yt => cases op <;> simp only [cop, nilB] at h <;> (repeat' split at h) <;> cases h
  all_goals (simp only [cop] at h; (repeat' split at h) <;> cases h)
theorem Runs.alloc0 {st : St} {Q : St → Prop} {k : List It} {i : VIns} {l : List VIns} (hw : wantV st.s i.g = some true) (ho : i.op = .more .alloc0 [])
    (h : Runs P n (.ops l :: k) ⟨putO st.s i.dst (.rp (.agg [])), st.σ⟩ Q) : Runs P n (.ops (i :: l) :: k) st Q := by
  refine Runs.ins (by rw [ho]; simp) hw fun F hn μ a w o all hi hs next Q' hnext => ?_
  subst hn
  obtain ⟨hop, hd⟩ := cins_op hi
  rw [ho] at hop
  obtain ⟨t, g1, hn⟩ := cop_alloc0 hop
  have hrun : (execOp a.eval o).run P w = .ok (.value (.pointer (some ⟨w.heap.size, 0, none⟩))) (w.alloc (.cells #[] t)) := by
    unfold execOp
    rw [g1]
    simp [Instr.alloc, run_zero0 hn, newVar, newRow, Value.cells]
  unfold Oper.wp
  rw [hrun]
  obtain ⟨h1, hk⟩ := hs.sat.more (.cells #[] t)
  refine hnext _ _ _ ⟨μ, ?_⟩ h
  rw [← hd]
  exact hs.step h1 (MuLe.refl μ) hk (by simp) (by simp only [Rep]; exact ⟨w.heap.size, 0, rfl, by simp, .inl rfl, by simp [RepRow, RepCells]⟩)
theorem Runs.store0 {st : St} {Q : St → Prop} {k : List It} {i : VIns} {l : List VIns} {xa xv : VX} {u : V} (hw : wantV st.s i.g = some true) (ho : i.op = .more .store0 [xa, xv]) (ha : xa.ev st.s = .rp u) (hv : xv.ev st.s = .agg [])
    (h : Runs P n (.ops l :: k) ⟨putO st.s i.dst (.tup []), st.σ⟩ Q) : Runs P n (.ops (i :: l) :: k) st Q := by
  refine Runs.ins (by rw [ho]; simp) hw fun F hn μ a w o all hi hs next Q' hnext => ?_
  subst hn
  obtain ⟨hop, hd⟩ := cins_op hi
  rw [ho] at hop
  obtain ⟨t, x, y, g1, hn, g2⟩ := cop_store0 hop
  simp only [List.cons.injEq, and_true] at g2
  obtain ⟨rfl, rfl⟩ := g2
  have R1 := rep_cx hs x
  have R2 := rep_cx hs y
  rw [ha] at R1
  rw [hv] at R2
  simp only [Rep] at R1 R2
  obtain ⟨b, off, e1, _⟩ := R1
  obtain ⟨vals, e2, e3, _⟩ := R2
  simp only [RepAll] at e3
  subst e3
  obtain ⟨ti, _, hti, hsz, _⟩ := nullT_iff hn
  have hrun : (execOp a.eval o).run P w = .ok .skip w := by
    unfold execOp
    rw [g1]
    simp [Instr.storeAt, Instr.sureAddr, e1, e2, storeVar, sizeOf, typeInfo, hti, hsz, Value.cells, storeCells]
  unfold Oper.wp
  rw [hrun]
  refine hnext _ _ _ ⟨μ, ?_⟩ h
  rw [← hd]
  exact hs.pure (by simp [Rep, RepAll, undef])
theorem Runs.nilS2 {st : St} {Q : St → Prop} {k : List It} {i : VIns} {l : List VIns} {xa : VX} (hw : wantV st.s i.g = some true) (ho : i.op = .binB false xa (.c (.iface 0 .undef))) {b : Bool}
    (hx : (xa.ev st.s = .nils ∧ b = true) ∨ (∃ sz r rows, xa.ev st.s = .sl sz (r :: rows) ∧ b = false) ∨ ∃ id off m, xa.ev st.s = .own id off (m + 1) ∧ b = false)
    (h : Runs P n (.ops l :: k) ⟨putO st.s i.dst (.bool b), st.σ⟩ Q) : Runs P n (.ops (i :: l) :: k) st Q := by
  refine Runs.ins (by rw [ho]; simp) hw fun F hn μ a w o all hi hs next Q' hnext => ?_
  subst hn
  obtain ⟨hop, hd⟩ := cins_op hi
  rw [ho] at hop
  obtain ⟨t, x, y, m, c, yt, e, g1, rfl, g2, rfl⟩ := cop_nilS hop
  have R := rep_cx hs x
  have hX : ∃ ba len cap, a.eval x = .slice ba len cap ∧ ba.isNone = b := by
    rcases hx with ⟨hx, rfl⟩ | ⟨sz, r, rows, hx, rfl⟩ | ⟨id, off, m, hx, rfl⟩
    · rw [hx] at R
      simp only [Rep] at R
      exact ⟨none, 0, 0, R, rfl⟩
    · rw [hx] at R
      simp only [Rep] at R
      obtain ⟨ba, cap, hX, _, hr⟩ := R
      rcases hr with hr | ⟨b, off, rfl, _⟩
      · cases hr
      · exact ⟨_, _, _, hX, rfl⟩
    · rw [hx] at R
      simp only [Rep] at R
      split at R
      · exact R.elim
      · exact absurd R.2.2 (by omega)
      · obtain ⟨o, c, hX, _⟩ := R
        exact ⟨_, _, _, hX, rfl⟩
  obtain ⟨ba, len, cap, hX, rfl⟩ := hX
  have hrun : (execOp a.eval o).run P w = .ok (.value (.bool ba.isNone)) w := by
    unfold execOp
    rw [g1]
    have hY : a.eval (.const (.slice none m c)) = .slice none m c := rfl
    simp [hX, hY, eqGuard, Lib.run_eql_slice_nil w t e ba len cap m c g2]
  unfold Oper.wp
  rw [hrun]
  refine hnext _ _ _ ⟨μ, ?_⟩ h
  rw [← hd]
  exact hs.pure (by simp [Rep])
def fkOk (P : Program) (g : FuncId) : Fk → Prop
  | .code vf => callable P g = true ∧ okFn2 vf = true ∧ ∃ fn, P.funcs[g]? = some fn ∧ cfn P fn = some vf
  | .fz vf => callable P g = true ∧ okFn2 vf = true ∧ ∃ fn, P.funcs[g]? = some fn ∧ cfn P fn = some vf
  | .orc h => ∀ as1 v, h as1 = some v → noidL as1 = true → v.noid = true → PFun P g as1 v
structure TOk (P : Program) (T : Tb) : Prop where
  mix : P.follows .mixedOrders = true
  fn : ∀ g k, T.fn g = some k → fkOk P g k
  it : ∀ g h, T.it g = some h → ∀ caps xs, h caps = some xs → noidL caps = true → Iter P g caps xs
theorem fzQ_okN {R : Nat → Nat → Prop} {σt : Tr (Option Ob)} {σ : Store} (hm : Lv R (stF σt) σ) {N : Nat → Prop} : ∀ (f : Nat) (v u v' : V), fzQ f σt v = some v' → VRel R v u →
    (∀ c ∈ idsQ f σt v, ∀ a o, R c a → stF σt c = some o → N a) → Fz σ N u v'
  | 0, _, _, _, h, _, _ => by simp [fzQ] at h
  | f + 1, v, u, v', h, hr, hN => by
    have hL : ∀ (vs us out : List V), fzLQ (fzQ f σt) vs = some out → VRelL R vs us → (∀ c ∈ idLQ (idsQ f σt) vs, ∀ a o, R c a → stF σt c = some o → N a) → FzL σ N us out := by
      intro vs
      induction vs with
      | nil =>
        intro us out h1 h2 _
        rw [VRelL.nil_iff] at h2; subst h2
        simp only [fzLQ, Option.some.injEq] at h1; subst h1
        exact .nil
      | cons a vs ih =>
        intro us out h1 h2 hN
        obtain ⟨b, bs, rfl, h3, h4⟩ := VRelL.cons_iff.1 h2
        simp only [idLQ, List.mem_append] at hN
        simp only [fzLQ] at h1
        split at h1
        · rename_i c hc
          split at h1
          · rename_i cs hcs
            simp only [Option.some.injEq] at h1; subst h1
            exact .cons _ _ _ _ (fzQ_okN hm f _ _ _ hc h3 fun c hc => hN c (.inl hc)) (ih _ _ hcs h4 fun c hc => hN c (.inr hc))
          · cases h1
        · cases h1
    cases v <;> simp only [fzQ, bcase] at h <;> simp only [idsQ] at hN
    case own id off len =>
      split at h
      · rename_i ob hob
        simp only [hob, List.mem_cons] at hN
        split at h
        · rename_i hle
          simp only [Option.map_eq_some_iff] at h
          obtain ⟨rows, h3, rfl⟩ := h
          simp only [VRel] at hr
          obtain ⟨id', rfl, hR⟩ := hr
          obtain ⟨rows', g1, g2⟩ := hm _ id' ob hR hob
          have := hL _ _ _ h3 ((g2.drop _).take _) fun c hc => hN c (.inr hc)
          exact .own id' _ _ ⟨ob.elem, ob.sz, rows'⟩ _ g1 (hN id (.inl rfl) id' ob hR hob) (by rw [g2.length]; exact Nat.le_of_ble_eq_true hle) this
        · cases h
      · cases h
    case ptr id i k =>
      split at h
      · rename_i hk
        split at h
        · rename_i ob hob
          split at h
          · rename_i r hri
            simp only [hob, hri, List.mem_cons] at hN
            simp only [Option.map_eq_some_iff] at h
            obtain ⟨r', h3, rfl⟩ := h
            simp only [VRel] at hr
            obtain ⟨id', rfl, hR⟩ := hr
            obtain ⟨rows', g1, g2⟩ := hm _ id' ob hR hob
            obtain ⟨q, g3, g4⟩ := g2.get hri
            have hk0 : k = 0 := Nat.eq_of_beq_eq_true hk
            subst hk0
            exact .ptr id' _ ⟨ob.elem, ob.sz, rows'⟩ q r' g1 (hN id (.inl rfl) id' ob hR hob) g3 (fzQ_okN hm f _ _ _ h3 g4 fun c hc => hN c (.inr hc))
          · cases h
        · cases h
      · cases h
    case iface t x =>
      simp only [VRel] at hr
      obtain ⟨y, rfl, hr⟩ := hr
      simp only [Option.map_eq_some_iff] at h
      obtain ⟨m, hm', rfl⟩ := h
      exact .iface _ _ _ (fzQ_okN hm f _ _ _ hm' hr hN)
    case sl sz rows =>
      simp only [VRel] at hr
      obtain ⟨y, rfl, hr⟩ := hr
      simp only [Option.map_eq_some_iff] at h
      obtain ⟨m, hm', rfl⟩ := h
      exact .sl _ _ _ (hL _ _ _ hm' hr hN)
    case agg =>
      simp only [VRel] at hr
      obtain ⟨y, rfl, hr⟩ := hr
      simp only [Option.map_eq_some_iff] at h
      obtain ⟨m, hm', rfl⟩ := h
      exact .agg _ _ (hL _ _ _ hm' hr hN)
    case tup =>
      simp only [VRel] at hr
      obtain ⟨y, rfl, hr⟩ := hr
      simp only [Option.map_eq_some_iff] at h
      obtain ⟨m, hm', rfl⟩ := h
      exact .tup _ _ (hL _ _ _ hm' hr hN)
    case fn =>
      simp only [VRel] at hr
      obtain ⟨y, rfl, hr⟩ := hr
      simp only [Option.map_eq_some_iff] at h
      obtain ⟨m, hm', rfl⟩ := h
      exact .fn _ _ _ (hL _ _ _ hm' hr hN)
    case bm =>
      simp only [VRel] at hr
      obtain ⟨y, rfl, hr⟩ := hr
      simp only [Option.map_eq_some_iff] at h
      obtain ⟨m, hm', rfl⟩ := h
      exact .bm _ _ _ (hL _ _ _ hm' hr hN)
    all_goals (split at h
               · rename_i hno
                 simp only [Option.some.injEq] at h; subst h
                 have := noid_eq _ _ hno hr
                 subst this
                 exact .same _ hno
               · cases h)
theorem fzLQ_okN {R : Nat → Nat → Prop} {σt : Tr (Option Ob)} {σ : Store} (hm : Lv R (stF σt) σ) {N : Nat → Prop} {f : Nat} : ∀ (vs us out : List V), fzLQ (fzQ f σt) vs = some out → VRelL R vs us →
    (∀ c ∈ idLQ (idsQ f σt) vs, ∀ a o, R c a → stF σt c = some o → N a) → FzL σ N us out
  | [], us, out, h1, h2, _ => by
    rw [VRelL.nil_iff] at h2; subst h2
    simp only [fzLQ, Option.some.injEq] at h1; subst h1
    exact .nil
  | a :: vs, us, out, h1, h2, hN => by
    obtain ⟨b, bs, rfl, h3, h4⟩ := VRelL.cons_iff.1 h2
    simp only [idLQ, List.mem_append] at hN
    simp only [fzLQ] at h1
    split at h1
    · rename_i c hc
      split at h1
      · rename_i cs hcs
        simp only [Option.some.injEq] at h1; subst h1
        exact .cons _ _ _ _ (fzQ_okN hm f _ _ _ hc h3 fun c hc => hN c (.inl hc)) (fzLQ_okN hm _ _ _ hcs h4 fun c hc => hN c (.inr hc))
      · cases h1
    · cases h1
section
variable {call : CallT} {K : Store} {fl : Nat} {R : Nat → Nat → Prop} {cs cs' : CS} {st : St} {Q : St → Prop} {k : List It}
theorem compI2_split {i : VIns} (hok : okIns i = true) (h : SRel K fl R cs st) (hr : (compI2 i).f call fl cs = some cs') :
    (wantV st.s i.g = some true ∧ (compO2 i.dst i.op).f call fl cs = some cs') ∨ (wantV st.s i.g = some false ∧ cs' = cs.put i.dst (.tup [])) := by
  simp only [okIns, Bool.and_eq_true] at hok
  unfold compI2 at hr
  split at hr
  · rename_i hg
    exact .inl ⟨by simp [hg, wantV], hr⟩
  · rename_i x b hg
    have hx := hok.2
    simp only [hg] at hx
    have hv := ev_rel h.slot hx
    simp only [guardB] at hr
    split at hr
    · rename_i c hc
      rw [hc, VRel.bool_iff] at hv
      rw [brec] at hr
      split at hr
      · rename_i hcb
        simp only [Option.some.injEq] at hr
        refine .inr ⟨?_, hr.symm⟩
        simp only [hg, wantV, hv]
        cases c <;> cases b <;> simp_all
      · rename_i hcb
        refine .inl ⟨?_, hr⟩
        simp only [hg, wantV, hv]
        cases c <;> cases b <;> simp_all
    · rename_i hc
      rw [hc] at hv
      simp only [VRel, VRelL] at hv
      obtain ⟨c', hv, rfl⟩ := hv
      simp only [Option.some.injEq] at hr
      exact .inr ⟨by simp only [hg, wantV, hv], hr.symm⟩
    · rename_i hc
      rw [hc, VRel.int_iff] at hv
      simp only [Option.some.injEq] at hr
      exact .inr ⟨by simp only [hg, wantV, hv], hr.symm⟩
    · cases hr
theorem ins_run0 (hc : CallOk P call) {i : VIns} {l : List VIns} (hok : okIns i = true) (h : SRel K fl R cs st) (hw : wantV st.s i.g = some true) (hr : (compO false i.dst i.op).f call fl cs = some cs')
    (hk : ∀ R' st', Le R R' → SRel K fl R' cs' st' → Runs P n (.ops l :: k) st' Q) : Runs P n (.ops (i :: l) :: k) st Q := by
  have hi : wantV st.s (⟨i.dst, i.op, none⟩ : VIns).g = some true := rfl
  have hok' : okIns ⟨i.dst, i.op, none⟩ = true := by
    simp only [okIns, Bool.and_eq_true] at hok ⊢
    exact ⟨hok.1, trivial⟩
  have := ins_run (P := P) (n := n) (k := k) (Q := Q) (l := l) hc hok' h (show (compI false ⟨i.dst, i.op, none⟩).f call fl cs = some cs' from hr) hk
  intro F hn kt hkt a w hs
  obtain ⟨z, kt', rfl, hy, hk'⟩ := kt_cons hkt
  cases z <;> simp only [KI.it, It.ops.injEq, reduceCtorEq] at hy
  rename_i all os
  cases os with
  | nil => simp at hy
  | cons o os =>
    simp only [List.map_cons, List.cons.injEq] at hy
    obtain ⟨hi1, hl⟩ := hy
    obtain ⟨μ, hs'⟩ := hs
    have hwant := want_of (P := P) hs' all o (b := true) (by rw [hn, hi1]; exact hw)
    have h2 := this F hn (.ops all ({ o with guard := none } :: os) :: kt') (by
      simp only [List.map_cons, KI.it, hk', List.cons.injEq, It.ops.injEq, hl, and_true]
      rw [← hi1]; rfl) a w ⟨μ, hs'⟩
    simp only [Kont, wpListIn, hwant, if_true] at h2 ⊢
    have e1 : Region.wanted { o with guard := none } (yielded all a.tmps) = true := rfl
    simp only [e1, if_true] at h2
    exact h2
theorem ins_run2 (hc : CallOk P call) {i : VIns} {l : List VIns} (hok : okIns i = true) (h : SRel K fl R cs st) (hr : (compI2 i).f call fl cs = some cs')
    (hk : ∀ R' st', Le R R' → SRel K fl R' cs' st' → Runs P n (.ops l :: k) st' Q) : Runs P n (.ops (i :: l) :: k) st Q := by
  have hop : okOp i.op = true := by simp only [okIns, Bool.and_eq_true] at hok; exact hok.1
  rcases compI2_split hok h hr with ⟨hw, hr⟩ | ⟨hw, rfl⟩
  · unfold compO2 at hr
    split at hr
    · rename_i tbl rx xs hop'
      rw [hop'] at hop
      simp only [okOp, VOp.xs, List.all_cons, Bool.and_eq_true] at hop
      simp only [invB] at hr
      split at hr
      · rename_i t v hv
        have hrx := ev_rel h.slot hop.1.1
        rw [hv] at hrx
        simp only [VRel] at hrx
        obtain ⟨v', hv', hvr⟩ := hrx
        split at hr
        · rename_i f hf
          generalize hcl : call f (v :: xs.map (·.ev cs.sf)) cs.σ cs.nxt fl = r at hr
          cases r with
          | none => simp [callIn] at hr
          | some r =>
            simp only [callIn, Option.some.injEq] at hr
            refine Runs.inv hw hop' hv' hf (hc _ _ _ _ _ _ hcl K R st.σ _ h.mem (VRelL.cons_iff.2 ⟨_, _, rfl, hvr, evs_rel h.slot hop.1.2⟩)) ?_
            rintro u σ' ⟨R', hle, hu, hm⟩
            have hS : SRel K fl R' ⟨cs.s, r.σ, r.nxt⟩ ⟨st.s, σ'⟩ := ⟨fun j => VRel.mono hle _ _ (h.slot j), hm⟩
            exact hk R' _ hle (hr ▸ hS.put hu)
        · cases hr
      · cases hr
    · rename_i hop'
      simp only [Option.some.injEq] at hr; subst hr
      exact Runs.alloc0 hw hop' (hk R _ (Le.refl R) (h.put (by simp [VRel, VRelL])))
    · rename_i xa xv hop'
      rw [hop'] at hop
      simp only [okOp, VOp.xs, List.all_cons, Bool.and_eq_true] at hop
      have h1 := ev_rel h.slot hop.1.1
      have h2 := ev_rel h.slot hop.1.2.1
      simp only [store0B] at hr
      split at hr
      · rename_i u hu
        rw [hu] at h1
        simp only [VRel] at h1
        obtain ⟨u', hu', _⟩ := h1
        split at hr
        · rename_i hv
          rw [hv] at h2
          simp only [VRel, VRelL] at h2
          obtain ⟨_, hv', rfl⟩ := h2
          simp only [Option.some.injEq] at hr; subst hr
          exact Runs.store0 hw hop' hu' hv' (hk R _ (Le.refl R) (h.put VRel.nilt))
        · cases hr
      · cases hr
    · rename_i fx xs hop'
      rw [hop'] at hop
      simp only [okOp, VOp.xs, List.all_cons, Bool.and_eq_true] at hop
      simp only [callB2] at hr
      split at hr
      · rename_i f caps hf
        have hfx := ev_rel h.slot hop.1.1
        rw [hf] at hfx
        simp only [VRel] at hfx
        obtain ⟨caps', hf', hcaps⟩ := hfx
        generalize hcl : call f (xs.map (·.ev cs.sf) ++ caps) cs.σ cs.nxt fl = r at hr
        cases r with
        | none => simp [callIn] at hr
        | some r =>
          simp only [callIn, Option.some.injEq] at hr
          refine Runs.call hw hop' hf' (hc _ _ _ _ _ _ hcl K R st.σ _ h.mem ((evs_rel h.slot hop.1.2).append hcaps)) ?_
          rintro v σ' ⟨R', hle, hv, hm⟩
          have hS : SRel K fl R' ⟨cs.s, r.σ, r.nxt⟩ ⟨st.s, σ'⟩ := ⟨fun j => VRel.mono hle _ _ (h.slot j), hm⟩
          exact hk R' _ hle (hr ▸ hS.put hv)
      · rename_i f caps hf
        have hfx := ev_rel h.slot hop.1.1
        rw [hf] at hfx
        simp only [VRel] at hfx
        obtain ⟨caps', hf', hcaps⟩ := hfx
        generalize hcl : call f (caps ++ xs.map (·.ev cs.sf)) cs.σ cs.nxt fl = r at hr
        cases r with
        | none => simp [callIn] at hr
        | some r =>
          simp only [callIn, Option.some.injEq] at hr
          refine Runs.callM hw hop' hf' (hc _ _ _ _ _ _ hcl K R st.σ _ h.mem (hcaps.append (evs_rel h.slot hop.1.2))) ?_
          rintro v σ' ⟨R', hle, hv, hm⟩
          have hS : SRel K fl R' ⟨cs.s, r.σ, r.nxt⟩ ⟨st.s, σ'⟩ := ⟨fun j => VRel.mono hle _ _ (h.slot j), hm⟩
          exact hk R' _ hle (hr ▸ hS.put hv)
      · cases hr
    · rename_i neg x hop'
      rw [hop'] at hop
      simp only [okOp, VOp.xs, List.all_cons, Bool.and_eq_true] at hop
      have hx := ev_rel h.slot hop.1.1
      simp only [nilfB] at hr
      split at hr
      · rename_i hv
        rw [hv] at hx
        simp only [VRel] at hx
        simp only [Option.some.injEq] at hr
        exact Runs.nilF hw hop' (.inl ⟨hx, rfl⟩) (hk R _ (Le.refl R) (hr ▸ h.put (by simp [VRel])))
      · rename_i f caps hv
        rw [hv] at hx
        simp only [VRel] at hx
        obtain ⟨caps', hx, _⟩ := hx
        simp only [Option.some.injEq] at hr
        exact Runs.nilF hw hop' (.inr ⟨f, caps', hx, rfl⟩) (hk R _ (Le.refl R) (hr ▸ h.put (by simp [VRel])))
      · cases hr
    · rename_i neg x hop'
      rw [hop'] at hop
      simp only [okOp, VOp.xs, List.all_cons, Bool.and_eq_true] at hop
      have hx := ev_rel h.slot hop.1.1
      simp only [niliB] at hr
      split at hr
      · rename_i hv
        rw [hv] at hx
        simp only [VRel] at hx
        simp only [Option.some.injEq] at hr
        exact Runs.nilI hw hop' (.inl ⟨hx, rfl⟩) (hk R _ (Le.refl R) (hr ▸ h.put (by simp [VRel])))
      · rename_i t' v' hv
        rw [hv] at hx
        simp only [VRel] at hx
        obtain ⟨u, hx, _⟩ := hx
        simp only [Option.some.injEq] at hr
        exact Runs.nilI hw hop' (.inr ⟨t', u, hx, rfl⟩) (hk R _ (Le.refl R) (hr ▸ h.put (by simp [VRel])))
      · cases hr
    · rename_i x hop'
      rw [hop'] at hop
      simp only [okOp, VOp.xs, List.all_cons, Bool.and_eq_true] at hop
      have hx := ev_rel h.slot hop.1.1
      simp only [nilsB] at hr
      split at hr
      · rename_i hv
        rw [hv] at hx
        simp only [VRel] at hx
        simp only [Option.some.injEq] at hr
        exact Runs.nilS2 hw hop' (.inl ⟨hx, rfl⟩) (hk R _ (Le.refl R) (hr ▸ h.put (by simp [VRel])))
      · rename_i sz r rows hv
        rw [hv] at hx
        simp only [VRel] at hx
        obtain ⟨rows', hx, hr'⟩ := hx
        obtain ⟨r', rows'', rfl, _, _⟩ := VRelL.cons_iff.1 hr'
        simp only [Option.some.injEq] at hr
        exact Runs.nilS2 hw hop' (.inr (.inl ⟨sz, r', rows'', hx, rfl⟩)) (hk R _ (Le.refl R) (hr ▸ h.put (by simp [VRel])))
      · rename_i id off m hv
        rw [hv] at hx
        simp only [VRel] at hx
        obtain ⟨id', hx, _⟩ := hx
        simp only [Option.some.injEq] at hr
        exact Runs.nilS2 hw hop' (.inr (.inr ⟨id', off, m, hx, rfl⟩)) (hk R _ (Le.refl R) (hr ▸ h.put (by simp [VRel])))
      · cases hr
    · exact ins_run0 hc hok h hw hr hk
  · exact Runs.skipIns hw (hk R _ (Le.refl R) (h.put VRel.nilt))
theorem evOps2N_cons (m : Nat) (i : VIns) (l : List VIns) : evOps2N call fl (m + 1) (i :: l) cs = match (compI2 i).f call fl cs with
    | some cs' => evOps2N call fl m l cs'
    | none => .bad := by
  show (@Option.casesOn CS (fun _ => Out) ((compI2 i).f call fl cs) .bad (evOps2N call fl m l)) = _
  cases (compI2 i).f call fl cs <;> rfl
theorem evOps2N_nx : ∀ (m : Nat) (l : List VIns) (cs : CS), (∃ cs', evOps2N call fl m l cs = .nx cs') ∨ evOps2N call fl m l cs = .bad
  | 0, _, _ => .inr rfl
  | m + 1, [], cs => .inl ⟨cs, rfl⟩
  | m + 1, i :: l, cs => by
    rw [evOps2N_cons]
    split
    · exact evOps2N_nx m l _
    · exact .inr rfl
theorem ops_run2 (hc : CallOk P call) : ∀ (m : Nat) (l : List VIns) (R : Nat → Nat → Prop) (cs : CS) (st : St), evOps2N call fl m l cs = .nx cs' → l.all okIns = true → SRel K fl R cs st →
    (∀ R' st', Le R R' → SRel K fl R' cs' st' → Runs P n k st' Q) → Runs P n (.ops l :: k) st Q
  | 0, _, _, _, _, h, _, _, _ => by cases h
  | m + 1, [], R, cs, st, h, _, hs, hk => by
    have h' : Out.nx cs = .nx cs' := h
    simp only [Out.nx.injEq] at h'
    subst h'
    exact Runs.ops_nil (hk R st (Le.refl R) hs)
  | m + 1, i :: l, R, cs, st, h, hok, hs, hk => by
    rw [evOps2N_cons] at h
    simp only [List.all_cons, Bool.and_eq_true] at hok
    split at h
    · rename_i cs1 h1
      refine ins_run2 hc hok.1 hs h1 fun R' st' hle hs' => ?_
      exact ops_run2 hc m l R' cs1 st' h hok.2 hs' fun R'' st'' hle' hs'' => hk R'' st'' (hle.trans hle') hs''
    · cases h
theorem compI3_split {i : VIns} (hok : okIns i = true) (h : SRel K fl R cs st) (hr : (compI3 i).f call fl cs = some cs') :
    (wantV st.s i.g = some true ∧ (compO3 i.dst i.op).f call fl cs = some cs') ∨ (wantV st.s i.g = some false ∧ cs' = cs.put i.dst (.tup [])) := by
  simp only [okIns, Bool.and_eq_true] at hok
  unfold compI3 at hr
  split at hr
  · rename_i hg
    exact .inl ⟨by simp [hg, wantV], hr⟩
  · rename_i x b hg
    have hx := hok.2
    simp only [hg] at hx
    have hv := ev_rel h.slot hx
    simp only [guardB] at hr
    split at hr
    · rename_i c hc
      rw [hc, VRel.bool_iff] at hv
      rw [brec] at hr
      split at hr
      · rename_i hcb
        simp only [Option.some.injEq] at hr
        refine .inr ⟨?_, hr.symm⟩
        simp only [hg, wantV, hv]
        cases c <;> cases b <;> simp_all
      · rename_i hcb
        refine .inl ⟨?_, hr⟩
        simp only [hg, wantV, hv]
        cases c <;> cases b <;> simp_all
    · rename_i hc
      rw [hc] at hv
      simp only [VRel, VRelL] at hv
      obtain ⟨c', hv, rfl⟩ := hv
      simp only [Option.some.injEq] at hr
      exact .inr ⟨by simp only [hg, wantV, hv], hr.symm⟩
    · rename_i hc
      rw [hc, VRel.int_iff] at hv
      simp only [Option.some.injEq] at hr
      exact .inr ⟨by simp only [hg, wantV, hv], hr.symm⟩
    · cases hr
theorem ins_T3 (hc : CallOk P call) {i : VIns} (hok : okIns i = true) (h : SRel K fl R cs st) (hr : (compI3 i).f call fl cs = some cs') {K' : St → Prop}
    (hk : ∀ R' st', Le R R' → SRel K fl R' cs' st' → K' st') : T P i st K' := by
  have hop : okOp i.op = true := by simp only [okIns, Bool.and_eq_true] at hok; exact hok.1
  rcases compI3_split hok h hr with ⟨hw, hr⟩ | ⟨hw, rfl⟩
  · refine T_true hw ?_
    unfold compO3 at hr
    split at hr
    · rename_i fx xs h0
      rw [h0] at hop
      rw [h0]
      simp only [callB3] at hr
      simp only [okOp, VOp.xs, List.all_cons, Bool.and_eq_true] at hop
      split at hr
      · rename_i f caps hf
        have hfx := ev_rel h.slot hop.1.1
        rw [hf] at hfx
        simp only [VRel] at hfx
        obtain ⟨caps', hf', hcaps⟩ := hfx
        generalize hcl : call f (xs.map (·.ev cs.sf) ++ caps) cs.σ cs.nxt cs.nxt = r at hr
        cases r with
        | none => simp [drawIn] at hr
        | some r =>
          have key : ∀ σ1, SubStore st.σ σ1 → MRel σ1 cs.nxt R (stF cs.σ) cs.nxt σ1 := fun σ1 hs1 => ⟨h.mem.dom, h.mem.live.sup hs1, h.mem.inj, h.mem.fn, SubStore.refl _, fun _ _ c _ _ hcR _ => h.mem.dom c _ hcR⟩
          simp only [drawIn, brec] at hr
          split at hr
          · rename_i hno
            simp only [Option.some.injEq] at hr
            refine ⟨f, caps', r.v, hf', fun σ1 hs1 => ?_, hk R _ (Le.refl R) (hr ▸ h.put (noid_refl r.v hno))⟩
            refine (hc _ _ _ _ _ _ hcl σ1 R σ1 _ (key σ1 hs1) ((evs_rel h.slot hop.1.2).append hcaps)).drop ?_
            rintro v σ' ⟨R', hle, hv, hm⟩
            exact ⟨σ1, hm.keep, noid_eq _ _ hno hv, rfl⟩
          · split at hr
            · rename_i hids
              split at hr
              · rename_i v hv
                have hno := fzQ_noid 40 _ _ _ hv
                simp only [Option.some.injEq] at hr
                refine ⟨f, caps', v, hf', fun σ1 hs1 => ?_, hk R _ (Le.refl R) (hr ▸ h.put (noid_refl v hno))⟩
                refine (hc _ _ _ _ _ _ hcl σ1 R σ1 _ (key σ1 hs1) ((evs_rel h.slot hop.1.2).append hcaps)).weak ?_
                rintro u σ' ⟨R', hle, hu, hm⟩
                refine ⟨v, σ1, hm.keep, (fzQ_okN (N := fun a => σ1 a = none) hm.live 40 _ _ _ hv hu fun c hcm a o hR ho => ?_).wk hm.keep fun _ h => h, rfl, rfl⟩
                have hge := List.all_eq_true.1 hids c hcm
                cases hk : σ1 a with
                | none => rfl
                | some x =>
                  have h1 := hm.kfl a x c o hk hR ho
                  have h2 := Nat.le_of_ble_eq_true hge
                  omega
              · cases hr
            · cases hr
      · cases hr
    · rename_i op hnc
      rcases okind_cases i.op with h0 | ⟨fx, xs, h0⟩ | ⟨sz, a, x, h0⟩ | h0 | ⟨sz, z, x, h0⟩ | h0
      · obtain ⟨v', h1, h2, h3⟩ := pure_case h0 hop h hr
        unfold TO
        simp only [h0]
        exact ⟨h1, v', h2, hk R _ (Le.refl R) h3⟩
      · exact absurd h0 (hnc fx xs)
      · rw [h0] at hr hop
        rw [h0]
        obtain ⟨σ', h1, h2⟩ := store_case hop h hr
        exact ⟨σ', h1, hk R _ (Le.refl R) h2⟩
      · obtain ⟨g', h1, h2⟩ := row_case h0 hop h hr
        unfold TO
        simp only [h0]
        refine ⟨g', h1, fun id hid => ?_⟩
        obtain ⟨R', h3, h4⟩ := h2 id hid
        exact hk R' _ h3 h4
      · rw [h0] at hr
        simp [compO, clearB] at hr
      · exact (bad_not h0 hr).elim
  · exact T_false hw (hk R _ (Le.refl R) (h.put VRel.nilt))
theorem evOps3N_cons (m : Nat) (i : VIns) (l : List VIns) : evOps3N call fl (m + 1) (i :: l) cs = match (compI3 i).f call fl cs with
    | some cs' => evOps3N call fl m l cs'
    | none => .bad := by
  show (@Option.casesOn CS (fun _ => Out) ((compI3 i).f call fl cs) .bad (evOps3N call fl m l)) = _
  cases (compI3 i).f call fl cs <;> rfl
theorem evOps3N_nx : ∀ (m : Nat) (l : List VIns) (cs : CS), (∃ cs', evOps3N call fl m l cs = .nx cs') ∨ evOps3N call fl m l cs = .bad
  | 0, _, _ => .inr rfl
  | m + 1, [], cs => .inl ⟨cs, rfl⟩
  | m + 1, i :: l, cs => by
    rw [evOps3N_cons]
    split
    · exact evOps3N_nx m l _
    · exact .inr rfl
theorem ops_T3 (hc : CallOk P call) {K' : St → Prop} : ∀ (m : Nat) (l : List VIns) (R : Nat → Nat → Prop) (cs : CS) (st : St), evOps3N call fl m l cs = .nx cs' → l.all okIns = true → SRel K fl R cs st →
    (∀ R' st', Le R R' → SRel K fl R' cs' st' → K' st') → TChain P K' l st
  | 0, _, _, _, _, h, _, _, _ => by cases h
  | m + 1, [], R, cs, st, h, _, hs, hk => by
    have h' : Out.nx cs = .nx cs' := h
    simp only [Out.nx.injEq] at h'
    subst h'
    exact hk R st (Le.refl R) hs
  | m + 1, i :: l, R, cs, st, h, hok, hs, hk => by
    rw [evOps3N_cons] at h
    simp only [List.all_cons, Bool.and_eq_true] at hok
    split at h
    · rename_i cs1 h1
      refine ins_T3 hc hok.1 hs h1 fun R' st' hle hs' => ?_
      exact ops_T3 hc m l R' cs1 st' h hok.2 hs' fun R'' st'' hle' hs'' => hk R'' st'' (hle.trans hle') hs''
    · cases h
theorem ins_TC (hc : CallOk P call) {i : VIns} (hok : okIns i = true) (hk3 : okind i.op ≤ 3) (h : SRel K fl R cs st) (hr : (compI false i).f call fl cs = some cs') {K' : St → Prop}
    (hk : ∀ R' st', Le R R' → SRel K fl R' cs' st' → K' st') : TC P i st K' := by
  have hop : okOp i.op = true := by simp only [okIns, Bool.and_eq_true] at hok; exact hok.1
  rcases compI_split hok h hr with ⟨hw, hr⟩ | ⟨hw, rfl⟩
  · rcases okind_cases i.op with h0 | ⟨fx, xs, h0⟩ | ⟨sz, a, x, h0⟩ | h0 | ⟨sz, z, x, h0⟩ | h0
    · obtain ⟨v', h1, h2, h3⟩ := pure_case h0 hop h hr
      refine .inl (T_true hw ?_)
      unfold TO
      simp only [h0]
      exact ⟨h1, v', h2, hk R _ (Le.refl R) h3⟩
    · rw [h0] at hr hop
      refine .inr ⟨hw, ?_⟩
      rw [h0]
      simp only [compO, callB] at hr
      simp only [okOp, VOp.xs, List.all_cons, Bool.and_eq_true] at hop
      split at hr
      · rename_i f caps hf
        have hfx := ev_rel h.slot hop.1.1
        rw [hf] at hfx
        simp only [VRel] at hfx
        obtain ⟨caps', hf', hcaps⟩ := hfx
        generalize hcl : call f (xs.map (·.ev cs.sf) ++ caps) cs.σ cs.nxt fl = r at hr
        cases r with
        | none => simp [callIn] at hr
        | some r =>
          simp only [callIn, Option.some.injEq] at hr
          refine ⟨f, caps', _, hf', hc _ _ _ _ _ _ hcl K R st.σ _ h.mem ((evs_rel h.slot hop.1.2).append hcaps), ?_⟩
          rintro v σ' ⟨R', hle, hv, hm⟩
          have hS : SRel K fl R' ⟨cs.s, r.σ, r.nxt⟩ ⟨st.s, σ'⟩ := ⟨fun j => VRel.mono hle _ _ (h.slot j), hm⟩
          exact hk R' _ hle (hr ▸ hS.put hv)
      · cases hr
    · refine .inl (T_true hw ?_)
      rw [h0] at hr hop
      rw [h0]
      obtain ⟨σ', h1, h2⟩ := store_case hop h hr
      exact ⟨σ', h1, hk R _ (Le.refl R) h2⟩
    · obtain ⟨g', h1, h2⟩ := row_case h0 hop h hr
      refine .inl (T_true hw ?_)
      unfold TO
      simp only [h0]
      refine ⟨g', h1, fun id hid => ?_⟩
      obtain ⟨R', h3, h4⟩ := h2 id hid
      exact hk R' _ h3 h4
    · rw [h0] at hk3; simp [okind] at hk3
    · exact (bad_not h0 hr).elim
  · exact .inl (T_false hw (hk R _ (Le.refl R) (h.put VRel.nilt)))
theorem chk_ok {i : VIns} (hok : okIns i = true) (h : SRel K fl R cs st) (hr : chkQ call fl i cs = true) : QYd P i st := by
  unfold chkQ at hr
  rw [bcase] at hr
  split at hr
  · rename_i hk0
    have hk0 := Nat.eq_of_beq_eq_true hk0
    split at hr
    · rename_i cs' hcs
      have hop : okOp i.op = true := by simp only [okIns, Bool.and_eq_true] at hok; exact hok.1
      have key : ∀ u, (∀ d, i.dst = some d → VRel R (cs'.sf d) u) → ∀ d, i.dst = some d → u = st.s d := fun u hu d hd => by
        rw [hd] at hr
        have := eqVQ_eq 40 _ _ hr
        have h1 := hu d hd
        rw [this] at h1
        exact VRel.fun h.mem.fn _ _ _ h1 (h.slot d)
      rcases compI_split hok h hcs with ⟨hw, hcs⟩ | ⟨hw, rfl⟩
      · obtain ⟨v', h1, h2, h3⟩ := pure_case hk0 hop h hcs
        have hq : QY P i st.s st.σ v' := .inl ⟨hw, by unfold QO; simp only [hk0]; exact ⟨h1, h2⟩⟩
        unfold QYd
        cases hd : i.dst with
        | none => exact ⟨v', hq⟩
        | some d =>
          simp only
          rw [← key v' (fun d' hd' => by
            have := h3.slot d'
            rw [hd'] at this
            simpa [putO] using this) d hd]
          exact hq
      · have hq : QY P i st.s st.σ (.tup []) := .inr ⟨hw, rfl⟩
        unfold QYd
        cases hd : i.dst with
        | none => exact ⟨_, hq⟩
        | some d =>
          simp only
          rw [← key (.tup []) (fun d' hd' => by
            have : (cs.put i.dst (.tup [])).sf d' = .tup [] := by rw [sf_put, hd']; simp [putO]
            rw [this]; exact VRel.nilt) d hd]
          exact hq
    · cases hr
  · cases hr
theorem itsQ_nx {l : List VIns} : ∀ (its : List Nat) (cs : CS), (∃ cs', itsQ call fl l its cs = .nx cs') ∨ itsQ call fl l its cs = .bad
  | [], cs => .inl ⟨cs, rfl⟩
  | m :: ms, cs => by
    simp only [itsQ, bcase]
    split
    · exact .inr rfl
    · split
      · split
        · split
          · exact itsQ_nx ms _
          · exact .inr rfl
        · exact .inr rfl
      · split
        · exact itsQ_nx ms _
        · exact .inr rfl
theorem its_run (hc : CallOk P call) {l : List VIns} (hok : l.all okIns = true) {K' : St → Prop} : ∀ (its : List Nat) (R : Nat → Nat → Prop) (cs : CS) (st : St), itsQ call fl l its cs = .nx cs' → SRel K fl R cs st →
    (∀ R' st', Le R R' → SRel K fl R' cs' st' → K' st') → RE P l K' its st
  | [], R, cs, st, h, hs, hk => by
    simp only [itsQ, Out.nx.injEq] at h
    subst h
    exact hk R st (Le.refl R) hs
  | m :: ms, R, cs, st, h, hs, hk => by
    simp only [itsQ, bcase] at h
    unfold RE
    split at h
    · cases h
    · rename_i i hi
      have hoki : okIns i = true := List.all_eq_true.1 hok i (List.mem_of_getElem? hi)
      try rw [hi]
      try simp only
      split at h
      · rename_i hm
        have hm := Nat.eq_of_beq_eq_true hm
        rw [if_pos hm]
        split at h
        · rename_i hk3
          split at h
          · rename_i cs1 h1
            exact ins_TC hc hoki (Nat.le_of_ble_eq_true hk3) hs h1 fun R' st' hle hs' => its_run hc hok ms R' cs1 st' h hs' fun R'' st'' hle' hs'' => hk R'' st'' (hle.trans hle') hs''
          · cases h
        · cases h
      · rename_i hm
        have hm' : ¬ m % 2 = 0 := fun e => hm (by rw [e]; rfl)
        rw [if_neg hm']
        split at h
        · rename_i hck
          exact ⟨chk_ok hoki hs hck, its_run hc hok ms R cs st h hs hk⟩
        · cases h
end
end Go.Vc
namespace Go.Vc
variable {P : Program} {n : Nat} {K : Store} {R : Nat → Nat → Prop} {k : List It} {Q : St → Prop}
theorem rho_lt {n N r c : Nat} (h : c < n) : rho n N r c = c := by
  have h1 : Nat.blt c n = true := Nat.ble_eq_true_of_le h
  unfold rho; rw [h1]
theorem rho_eq (n N r c : Nat) : rho n N r c = if c < n then c else if c < N then (if c + r < N then c + r else c + r - (N - n)) else c := by
  unfold rho
  simp only [bcase, Nat.blt_eq]
  rfl
theorem rho_lt_N {n N r c : Nat} (hn : n ≤ N) (hr : r ≤ N - n) (h : rho n N r c < N) : c < N := by
  rw [rho_eq] at h; split at h
  · omega
  · split at h <;> omega
theorem rho_inj {n N r c c' : Nat} (hn : n ≤ N) (hr : r ≤ N - n) (h : rho n N r c = rho n N r c') : c = c' := by
  simp only [rho_eq] at h
  by_cases h1 : c < n <;> by_cases h2 : c < N <;> by_cases h3 : c + r < N <;> by_cases h4 : c' < n <;> by_cases h5 : c' < N <;> by_cases h6 : c' + r < N <;> simp only [h1, h2, h3, h4, h5, h6, if_true, if_false] at h <;> omega
theorem rho_low {n N r c : Nat} (hn : n ≤ N) (hr : r ≤ N - n) (h : rho n N r c < n) : c = rho n N r c := by
  rw [rho_eq] at h ⊢
  split at h
  · rw [if_pos ‹_›]
  · split at h
    · split at h <;> omega
    · omega
theorem renV_rel {ρ : Nat → Nat} {R' : Nat → Nat → Prop} : ∀ (f : Nat) (v u x : V), renV ρ f v u = true → VRel R' u x → VRel (fun c a => R' (ρ c) a) v x
  | 0, _, _, _, h, _ => by simp [renV] at h
  | f + 1, v, u, x, h, hr => by
    have hL : ∀ {l m y : List V}, eqLQ (renV ρ f) l m = true → VRelL R' m y → VRelL (fun c a => R' (ρ c) a) l y := by
      intro l
      induction l with
      | nil =>
        intro m y h1 h2
        cases m with
        | nil => rw [VRelL.nil_iff] at h2; subst h2; simp [VRelL]
        | cons a b => simp [eqLQ] at h1
      | cons a l ih =>
        intro m y h1 h2
        cases m with
        | nil => simp [eqLQ] at h1
        | cons b m =>
          simp only [eqLQ, bcase] at h1
          split at h1
          · rename_i hab
            obtain ⟨z, zs, rfl, h3, h4⟩ := VRelL.cons_iff.1 h2
            exact VRelL.cons_iff.2 ⟨z, zs, rfl, renV_rel f _ _ _ hab h3, ih h1 h4⟩
          · cases h1
    cases v <;> cases u <;> simp only [renV, Bool.false_eq_true, Bool.and_eq_true, decide_eq_true_eq, beq_iff_eq] at h <;> simp only [VRel] at hr ⊢
    case int.int => rw [hr, eqQ_iff h.2, of_decide_eq_true (p := _ = _) h.1]
    case bool.bool => rw [hr, h]
    case str.str => rw [hr, h]
    case nils.nils => exact hr
    case nilp.nilp => exact hr
    case nilfn.nilfn => exact hr
    case niliface.niliface => exact hr
    case own.own => obtain ⟨i, rfl, r⟩ := hr; exact ⟨i, by rw [Nat.eq_of_beq_eq_true h.2.1, Nat.eq_of_beq_eq_true h.2.2], by rw [Nat.eq_of_beq_eq_true h.1]; exact r⟩
    case ptr.ptr => obtain ⟨i, rfl, r⟩ := hr; exact ⟨i, by rw [Nat.eq_of_beq_eq_true h.2.1, Nat.eq_of_beq_eq_true h.2.2], by rw [Nat.eq_of_beq_eq_true h.1]; exact r⟩
    case yl.yl => obtain ⟨i, rfl, r⟩ := hr; exact ⟨i, rfl, by rw [Nat.eq_of_beq_eq_true h]; exact r⟩
    case sl.sl => obtain ⟨y, rfl, r⟩ := hr; exact ⟨y, by rw [Nat.eq_of_beq_eq_true h.1], hL h.2 r⟩
    case rp.rp => obtain ⟨y, rfl, r⟩ := hr; exact ⟨y, rfl, renV_rel f _ _ _ h r⟩
    case iface.iface => obtain ⟨y, rfl, r⟩ := hr; exact ⟨y, by rw [Nat.eq_of_beq_eq_true h.1], renV_rel f _ _ _ h.2 r⟩
    case fn.fn => obtain ⟨y, rfl, r⟩ := hr; exact ⟨y, by rw [Nat.eq_of_beq_eq_true h.1], hL h.2 r⟩
    case bm.bm => obtain ⟨y, rfl, r⟩ := hr; exact ⟨y, by rw [Nat.eq_of_beq_eq_true h.1], hL h.2 r⟩
    case agg.agg => obtain ⟨y, rfl, r⟩ := hr; exact ⟨y, rfl, hL h r⟩
    case tup.tup => obtain ⟨y, rfl, r⟩ := hr; exact ⟨y, rfl, hL h r⟩
theorem renL_rel {ρ : Nat → Nat} {R' : Nat → Nat → Prop} {f : Nat} : ∀ {l m y : List V}, eqLQ (renV ρ f) l m = true → VRelL R' m y → VRelL (fun c a => R' (ρ c) a) l y
  | [], m, y, h1, h2 => by
    cases m with
    | nil => rw [VRelL.nil_iff] at h2; subst h2; simp [VRelL]
    | cons a b => simp [eqLQ] at h1
  | a :: l, m, y, h1, h2 => by
    cases m with
    | nil => simp [eqLQ] at h1
    | cons b m =>
      simp only [eqLQ, bcase] at h1
      split at h1
      · rename_i hab
        obtain ⟨z, zs, rfl, h3, h4⟩ := VRelL.cons_iff.1 h2
        exact VRelL.cons_iff.2 ⟨z, zs, rfl, renV_rel f _ _ _ hab h3, renL_rel h1 h4⟩
      · cases h1
theorem trB_gL {α : Type} {f : α → α → Bool} {d : α} (hd : f d d = true) : ∀ (p : List Bool) (t t' : Tr α), trB f t t' = true → f (gL d p t) (gL d p t') = true
  | p, .e, .e, _ => by rw [gL_e]; exact hd
  | [], .n l v r, .n l' v' r', h => by
    simp only [trB, bcase] at h
    split at h
    · rename_i hv; exact hv
    · cases h
  | b :: p, .n l v r, .n l' v' r', h => by
    simp only [trB, bcase] at h
    split at h
    · split at h
      · rename_i hl
        cases b
        · exact trB_gL hd p r r' h
        · exact trB_gL hd p l l' hl
      · cases h
    · cases h
  | _, .e, .n _ _ _, h => by simp [trB] at h
  | _, .n _ _ _, .e, h => by simp [trB] at h
theorem trB_get {α : Type} {f : α → α → Bool} {d : α} (hd : f d d = true) {t t' : Tr α} (h : trB f t t' = true) (i : Nat) : f (getP d i t) (getP d i t') = true := by
  unfold getP
  rw [getN_eq _ _ _ _ (pathOf_len i), getN_eq _ _ _ _ (pathOf_len i)]
  exact trB_gL hd _ _ _ h
theorem cutQ_get {σ : Tr (Option Ob)} {n i : Nat} : ∀ {m : Nat}, (i < n ∨ n + m ≤ i) → getP none i (cutQ σ n m) = getP none i σ
  | 0, _ => rfl
  | m + 1, h => by
    have e : Nat.add n m = n + m := rfl
    rw [cutQ, getP_set, if_neg (by omega)]
    exact cutQ_get (by omega)
theorem rowsB_get {ρ : Nat → Nat} {A B : Tr (Option Ob)} {n : Nat} : ∀ {m : Nat}, rowsB ρ A B n m = true → ∀ i, n ≤ i → i < n + m → renO ρ (getP none i A) (getP none (ρ i) B) = true
  | 0, _, i, _, _ => by omega
  | m + 1, h, i, h1, h2 => by
    simp only [rowsB, bcase] at h
    split at h
    · rename_i hr
      by_cases e : i = n + m
      · subst e; exact hr
      · exact rowsB_get h i h1 (by omega)
    · cases h
theorem someR_spec {f : Nat → Bool} : ∀ {m : Nat}, someR f m = true → ∃ r, f r = true
  | 0, h => ⟨0, h⟩
  | m + 1, h => by
    simp only [someR, bcase] at h
    split at h
    · rename_i hf; exact ⟨_, hf⟩
    · exact someR_spec h
theorem renO_rel {ρ : Nat → Nat} {a b : Option Ob} (h : renO ρ a b = true) {o : Ob} (ha : a = some o) : ∃ o', b = some o' ∧ o.elem = o'.elem ∧ o.sz = o'.sz ∧ eqLQ (renV ρ 40) o.rows o'.rows = true := by
  subst ha
  cases b with
  | none => simp [renO] at h
  | some o' =>
    simp only [renO, Bool.and_eq_true] at h
    exact ⟨o', rfl, Nat.eq_of_beq_eq_true h.1, Nat.eq_of_beq_eq_true h.2.1, h.2.2⟩
theorem chkR_ok {fl m : Nat} {A B : CS} (h : chkR fl m A B = true) {R0 R' : Nat → Nat → Prop} (hd : ∀ c a, R0 c a → c < m) (hle : Le R0 R') {st : St} (hs : SRel K fl R' B st) : ∃ R'', Le R0 R'' ∧ SRel K fl R'' A st := by
  unfold chkR at h
  rw [bcase] at h
  split at h
  · rename_i hc
    simp only [Bool.and_eq_true, Nat.ble_eq] at hc
    obtain ⟨hN, hfl, hmN⟩ := hc
    have hN := Nat.eq_of_beq_eq_true hN
    obtain ⟨r, hr⟩ := someR_spec h
    generalize hNN : A.nxt = N at *
    unfold renC at hr
    rw [bcase] at hr
    split at hr
    · rename_i hrN
      rw [bcase] at hr
      split at hr
      · rename_i hrows
        rw [bcase] at hr
        split at hr
        · rename_i hsl
          have hrN : r ≤ N - m := Nat.le_of_ble_eq_true hrN
          generalize hρ : rho m N r = ρ at *
          have key : ∀ c o, stF A.σ c = some o → ∃ o', stF B.σ (ρ c) = some o' ∧ o.elem = o'.elem ∧ o.sz = o'.sz ∧ eqLQ (renV ρ 40) o.rows o'.rows = true := by
            intro c o ho
            by_cases hin : m ≤ c ∧ c < N
            · exact renO_rel (rowsB_get hrows c hin.1 (by have : Nat.sub N m = N - m := rfl; omega)) ho
            · have hcc : ρ c = c := by rw [← hρ, rho_eq]; split <;> (try split) <;> omega
              have h1 := trB_get (d := none) (by simp [renO]) hr c
              rw [cutQ_get (by have : Nat.sub N m = N - m := rfl; omega), cutQ_get (by have : Nat.sub N m = N - m := rfl; omega)] at h1
              rw [hcc]
              exact renO_rel h1 ho
          refine ⟨fun c a => R' (ρ c) a, fun c a hR => ?_, ⟨fun i => ?_, ?_⟩⟩
          · have : ρ c = c := by rw [← hρ]; exact rho_lt (hd c a hR)
            show R' (ρ c) a
            rw [this]; exact hle c a hR
          · have h1 : renV ρ 40 (A.sf i) (B.sf i) = true := trB_get (d := V.tup []) (by simp [renV, eqLQ]) hsl i
            exact renV_rel 40 _ _ _ h1 (hs.slot i)
          · have hm := hs.mem
            refine ⟨fun c a hR => ?_, fun c a o hR ho => ?_, fun c c' a o o' h1 h2 h3 h4 => ?_, fun c a a' h1 h2 => hm.fn _ a a' h1 h2, hm.keep, fun a o c oc h1 h2 h3 => ?_⟩
            · have h1 := hm.dom _ a hR
              rw [← hN] at h1
              rw [hNN]
              exact rho_lt_N hmN hrN (by rw [hρ]; exact h1)
            · obtain ⟨o', g1, g2, g3, g4⟩ := key c o ho
              obtain ⟨rows', g5, g6⟩ := hm.live _ a o' hR g1
              exact ⟨rows', by rw [g2, g3]; exact g5, renL_rel g4 g6⟩
            · obtain ⟨x, g1, _⟩ := key c o h3
              obtain ⟨y, g2, _⟩ := key c' o' h4
              have := hm.inj _ _ a x y h1 h2 g1 g2
              rw [← hρ] at this
              exact rho_inj hmN hrN this
            · obtain ⟨x, g1, _⟩ := key c oc h3
              have h4 := hm.kfl a o _ x h1 h2 g1
              have h5 : rho m N r c < m := by rw [hρ]; omega
              have h6 := rho_low hmN hrN h5
              rw [h6, hρ]; exact h4
        · cases hr
      · cases hr
    · cases hr
  · cases h
theorem kidsE_spec {g : PT → Out} {fl m : Nat} {A : CS} : ∀ {kids : List PT}, kidsE g fl m A kids = true → ∀ k ∈ kids, ∃ B, g k = .nx B ∧ chkR fl m A B = true
  | [], _, k, hk => by cases hk
  | a :: r, h, k, hk => by
    simp only [kidsE] at h
    split at h
    · rename_i B hB
      rw [brec] at h
      split at h
      · rename_i hc
        rcases List.mem_cons.1 hk with rfl | hk
        · exact ⟨B, hB, hc⟩
        · exact kidsE_spec h k hk
      · cases h
    · cases h
theorem evT_nx {call : CallT} {fl : Nat} {l : List VIns} : ∀ (f : Nat) (pre : List Nat) (t : PT) (cs : CS), (∃ cs', evT call fl l f pre t cs = .nx cs') ∨ evT call fl l f pre t cs = .bad
  | 0, _, _, _ => .inr rfl
  | f + 1, pre, t, cs => by
    cases t with
    | leaf bef r => exact itsQ_nx (call := call) (fl := fl) (l := l) _ cs
    | fork bef m S kids =>
      simp only [evT]
      split
      · rename_i cs0 h0
        cases kids with
        | nil => exact .inr rfl
        | cons k r =>
          simp only [kidsO]
          split
          · rw [brec]
            split
            · exact .inl ⟨_, rfl⟩
            · exact .inr rfl
          · exact .inr rfl
      · exact .inr rfl
theorem evT_ok {call : CallT} {fl : Nat} (hc : CallOk P call) {l : List VIns} (hok : l.all okIns = true) {K' : St → Prop} : ∀ (f : Nat) (pre : List Nat) (t : PT) (R : Nat → Nat → Prop) (cs : CS) (st : St) {cs' : CS}, evT call fl l f pre t cs = .nx cs' → SRel K fl R cs st →
    (∀ R' st', Le R R' → SRel K fl R' cs' st' → K' st') → GT P l K' f pre t st
  | 0, _, _, _, _, _, _, h, _, _ => by cases h
  | f + 1, pre, t, R, cs, st, cs', h, hs, hk => by
    cases t with
    | leaf bef r => exact its_run hc hok _ R cs st h hs hk
    | fork bef m S kids =>
      simp only [evT] at h
      split at h
      · rename_i cs0 h0
        refine its_run hc hok _ R cs st h0 hs fun R0 st0 hle0 hs0 => ?_
        cases kids with
        | nil => cases h
        | cons k r =>
          simp only [kidsO] at h
          split at h
          · rename_i A hA
            rw [brec] at h
            split at h
            · rename_i hE
              simp only [Out.nx.injEq] at h; subst h
              intro kid hkid
              rcases List.mem_cons.1 hkid with rfl | hkid
              · exact evT_ok hc hok f _ _ R0 cs0 st0 hA hs0 fun R1 st1 hle1 hs1 => hk R1 st1 (hle0.trans hle1) hs1
              · obtain ⟨B, hB, hck⟩ := kidsE_spec hE kid hkid
                refine evT_ok hc hok f _ _ R0 cs0 st0 hB hs0 fun R1 st1 hle1 hs1 => ?_
                obtain ⟨R2, hle2, hs2⟩ := chkR_ok hck (fun c a h => hs0.mem.dom c a h) hle1 hs1
                exact hk R2 st1 (hle0.trans hle2) hs2
            · cases h
          · cases h
      · cases h
theorem planR_ok {l : List VIns} {deps : List (List Nat)} {t : PT} (h : planR l deps = some t) : chkT l 8 deps [] t = true := by
  unfold planR planC at h
  rw [bcase] at h
  split at h
  · rename_i hc
    simp only [Option.some.injEq] at h; subst h; exact hc
  · cases h
end Go.Vc
namespace Go.Vc
variable {P : Program} {n : Nat} {K : Store} {R : Nat → Nat → Prop} {k : List It} {Q : St → Prop}
theorem MRel.remC {fl nxt : Nat} {σc σ : Store} (h : MRel K fl R σc nxt σ) (c : Nat) : MRel K fl R (del σc c) nxt σ := by
  have hlive : ∀ i x, del σc c i = some x → σc i = some x := fun i x hx => by
    by_cases e : i = c
    · subst e; simp [Vc.del] at hx
    · rw [del_ne e] at hx; exact hx
  exact ⟨h.dom, fun c1 a1 o1 h1 h2 => h.live c1 a1 o1 h1 (hlive _ _ h2), fun c1 c2 a1 o1 o2 h1 h2 h3 h4 => h.inj c1 c2 a1 o1 o2 h1 h2 (hlive _ _ h3) (hlive _ _ h4), h.fn, h.keep,
    fun a1 o1 c1 oc h1 h2 h3 => h.kfl a1 o1 c1 oc h1 h2 (hlive _ _ h3)⟩
theorem delLQ_rel {nxt : Nat} : ∀ (ids : List Nat) (σt : Tr (Option Ob)) (σ : Store), MRel K 0 R (stF σt) nxt σ → ∃ σ', SubStore σ' σ ∧ MRel K 0 R (stF (delLQ ids σt)) nxt σ' ∧
    ∀ c ∈ ids, ∀ a o, R c a → stF σt c = some o → σ' a = none
  | [], σt, σ, h => ⟨σ, SubStore.refl _, h, by simp⟩
  | c :: cs, σt, σ, h => by
    cases hc : getP none c σt with
    | none =>
      obtain ⟨σ', h1, h2, h3⟩ := delLQ_rel cs σt σ h
      refine ⟨σ', h1, by simp only [delLQ, hc]; exact h2, fun c' hc' a o hR ho => ?_⟩
      rcases List.mem_cons.1 hc' with rfl | hc'
      · have : stF σt c' = none := hc
        rw [this] at ho; cases ho
      · exact h3 c' hc' a o hR ho
    | some ob =>
      have hob : stF σt c = some ob := hc
      have hdel : stF (setP none none c σt) = del (stF σt) c := stF_del _ _
      have hoth : ∀ c' o, c' ≠ c → stF σt c' = some o → stF (setP none none c σt) c' = some o := fun c' o hne ho => by rw [hdel, del_ne hne]; exact ho
      by_cases hex : ∃ a, R c a
      · obtain ⟨a0, ha0⟩ := hex
        have hm1 := h.rem ha0 hob (Nat.zero_le _)
        rw [← hdel] at hm1
        obtain ⟨σ', h1, h2, h3⟩ := delLQ_rel cs _ _ hm1
        refine ⟨σ', h1.trans fun i o hi => ?_, by simp only [delLQ, hc]; exact h2, fun c' hc' a o hR ho => ?_⟩
        · by_cases e : i = a0
          · subst e; simp [Vc.del] at hi
          · rw [del_ne e] at hi; exact hi
        · by_cases e : c' = c
          · subst e
            have := h.fn _ _ _ hR ha0
            subst this
            exact h1.none (by simp [Vc.del])
          · exact h3 c' ((List.mem_cons.1 hc').resolve_left e) a o hR (hoth c' o e ho)
      · have hm1 := h.remC c
        rw [← hdel] at hm1
        obtain ⟨σ', h1, h2, h3⟩ := delLQ_rel cs _ _ hm1
        refine ⟨σ', h1, by simp only [delLQ, hc]; exact h2, fun c' hc' a o hR ho => ?_⟩
        by_cases e : c' = c
        · subst e; exact absurd ⟨a, hR⟩ hex
        · exact h3 c' ((List.mem_cons.1 hc').resolve_left e) a o hR (hoth c' o e ho)
theorem putLQ_rel : ∀ (ps : List Nat) (x : List V) (s0 : Tr V) (s : Nat → V), noidL x = true → (∀ i, VRel R (getP (.tup []) i s0) (s i)) → ∀ i, VRel R (getP (.tup []) i (putLQ ps x s0)) (putL s ps x i)
  | [], x, s0, s, _, h, i => by simp only [putLQ, putL]; exact h i
  | _ :: _, [], s0, s, _, h, i => by simp only [putLQ, putL]; exact h i
  | p :: ps, x :: xs, s0, s, hx, h, i => by
    simp only [noidL, Bool.and_eq_true] at hx
    simp only [putLQ, putL]
    refine putLQ_rel ps xs _ _ hx.2 (fun j => ?_) i
    rw [getP_set]
    split
    · exact noid_refl x hx.1
    · exact h j
def bsd (σJ σ τ : Store) : Store := fun id => match σJ id, σ id with
  | none, some _ => none
  | _, _ => τ id
theorem bsd_none {σJ σ τ : Store} {id : Nat} {o : Ob} (h : σJ id = none) (h' : σ id = some o) : bsd σJ σ τ id = none := by simp [bsd, h, h']
theorem bsd_keep {σJ σ τ : Store} {id : Nat} (h : ¬ (σJ id = none ∧ σ id ≠ none)) : bsd σJ σ τ id = τ id := by
  unfold bsd
  split
  · rename_i h1 h2; exact absurd ⟨h1, by rw [h2]; simp⟩ h
  · rfl
theorem beside_back {σJ σ τ : Store} {σc σc2 : Store} {nx nx2 : Nat} {R2 : Nat → Nat → Prop} (hm0 : MRel K 0 R σc nx σJ) (hm2 : MRel (fun id => match σJ id with | none => σ id | some _ => K id) 0 R2 σc2 nx2 τ) :
    ∃ σ2, Beside σJ σ σ2 τ ∧ MRel K 0 R2 σc2 nx2 σ2 := by
  have hK : ∀ id, σJ id = none → (match σJ id with | none => σ id | some _ => K id) = σ id := fun id h => by rw [h]
  have hK' : ∀ id o, σJ id = some o → (match σJ id with | none => σ id | some _ => K id) = K id := fun id o h => by rw [h]
  have key : ∀ c a o, R2 c a → σc2 c = some o → ¬ (σJ a = none ∧ σ a ≠ none) := by
    rintro c a o hc ho ⟨h1, h2⟩
    cases hs : σ a with
    | none => exact h2 hs
    | some x => have := hm2.kfl a x c o (by rw [hK a h1]; exact hs) hc ho; omega
  refine ⟨bsd σJ σ τ, ⟨fun id o h => ?_, fun id o h1 h2 => ⟨hm2.keep id o (by rw [hK id h1]; exact h2), bsd_none h1 h2⟩⟩, hm2.dom, ?_, hm2.inj, hm2.fn, ?_, ?_⟩
  · by_cases hc : σJ id = none ∧ σ id ≠ none
    · cases hs : σ id with
      | none => exact absurd hs hc.2
      | some x => rw [bsd_none hc.1 hs] at h; cases h
    · rw [bsd_keep hc] at h; exact h
  · intro c a o hc ho
    obtain ⟨rows, h1, h2⟩ := hm2.live c a o hc ho
    exact ⟨rows, by rw [bsd_keep (key c a o hc ho)]; exact h1, h2⟩
  · intro id o h
    have h1 := hm0.keep id o h
    rw [bsd_keep (by rw [h1]; simp)]
    exact hm2.keep id o (by rw [hK' id o h1]; exact h)
  · intro a o c oc h1 h2 h3
    exact hm2.kfl a o c oc (by rw [hK' a o (hm0.keep a o h1)]; exact h1) h2 h3
theorem rng_ok {run : Nat → VCode → CS → Out}
    (ih : ∀ (K : Store) (R : Nat → Nat → Prop) (c : VCode) (cs : CS) (st : St) (k : List It) (Q : St → Prop), okCode2 c = true → SRel K 0 R cs st → Then P n K 0 R k Q (run 0 c cs) → Runs P n (.code c :: k) st Q)
    {d gf : Nat} {ps : List Nat} {a b : VCode} {caps : List V} {xs : List (List V)} (hit : Iter P gf caps xs) (ha : okCode2 a = true) (hb : okCode2 b = true)
    (hxs : (xs.all fun x => noidL x && Nat.beq x.length ps.length) = true) {s0 : Tr V} {σt : Tr (Option Ob)} {nxt : Nat} {st : St} (hs : SRel K 0 R ⟨s0, σt, nxt⟩ st) (hg : st.s d = .fn gf caps)
    (hthen : Then P n K 0 R k Q (rngQ s0 ps (bodyQ run a b) xs σt nxt)) : Runs P n (.code (.rangeF (.t d) ps a b) :: k) st Q := by
  generalize hT : rngQ s0 ps (bodyQ run a b) xs σt nxt = total at hthen
  have hall : ∀ x ∈ xs, noidL x = true ∧ x.length = ps.length := fun x hx => by
    have := List.all_eq_true.1 hxs x hx
    simp only [Bool.and_eq_true] at this
    exact ⟨this.1, Nat.eq_of_beq_eq_true this.2⟩
  refine Runs.rangeF (g := .t d) hg hit (fun x hx => (hall x hx).2) (match total with | .ex id _ => [id] | _ => [])
    (fun pre σa => ∃ σc nx R', Le R R' ∧ MRel K 0 R' (stF σc) nx σa ∧ rngQ s0 ps (bodyQ run a b) (xs.drop pre.length) σc nx = total)
    (fun e _ σa => ∃ cs' R', Le R R' ∧ MRel K 0 R' (stF cs'.σ) cs'.nxt σa ∧ cs'.s = s0 ∧ total = (match e with | some id => .ex id cs' | none => .rt cs'))
    ⟨σt, nxt, R, Le.refl R, hs.mem, hT⟩ ?_ ?_ ?_ ?_
  · rintro pre x post σJ σ hxs' ⟨σc, nx, R', hle, hm, htot⟩ hsub
    have hdrop : xs.drop pre.length = x :: post := by rw [hxs']; simp
    rw [hdrop] at htot
    have hno := (hall x (by rw [hxs']; simp)).1
    have hm' : MRel (fun id => match σJ id with | none => σ id | some _ => K id) 0 R' (stF σc) nx σ := by
      refine ⟨hm.dom, hm.live.sup hsub, hm.inj, hm.fn, fun id o h => ?_, fun a o c oc h1 h2 h3 => ?_⟩
      · have h : (match σJ id with | none => σ id | some _ => K id) = some o := h
        split at h
        · exact h
        · exact hsub _ _ (hm.keep _ _ h)
      · have h1 : (match σJ a with | none => σ a | some _ => K a) = some o := h1
        split at h1
        · rename_i hn
          obtain ⟨r, hr, _⟩ := hm.live c a oc h2 h3
          rw [hn] at hr; cases hr
        · exact hm.kfl a o c oc h1 h2 h3
    have hS : SRel (fun id => match σJ id with | none => σ id | some _ => K id) 0 R' ⟨putLQ ps x s0, σc, nx⟩ ⟨putL st.s ps x, σ⟩ :=
      ⟨putLQ_rel ps x s0 st.s hno fun i => VRel.mono hle _ _ (hs.slot i), hm'⟩
    have hnext : xs.drop (pre ++ [x]).length = post := by rw [hxs']; simp
    refine ih _ R' a _ _ _ _ ha hS ?_
    simp only [rngQ, bodyQ] at htot
    generalize run 0 a ⟨putLQ ps x s0, σc, nx⟩ = oa at htot
    cases oa with
    | nx cs1 =>
      intro R1 st1 hle1 hs1
      refine Runs.stop ?_
      refine ih _ R1 b cs1 st1 _ _ hb hs1 ?_
      simp only at htot
      generalize run 0 b cs1 = ob at htot
      cases ob with
      | nx cs2 =>
        intro R2 st2 hle2 hs2
        refine Runs.stop ?_
        obtain ⟨σ2, hb2, hm2⟩ := beside_back hm hs2.mem
        exact ⟨σ2, hb2, cs2.σ, cs2.nxt, R2, hle.trans (hle1.trans hle2), hm2, by rw [hnext]; exact htot⟩
      | ex id cs2 =>
        simp only at htot
        subst htot
        refine ⟨_, by simp [exK, popTo]; rfl, fun R2 st2 hle2 hs2 => ?_⟩
        refine Runs.stop ?_
        obtain ⟨σ2, hb2, hm2⟩ := beside_back hm hs2.mem
        exact ⟨σ2, hb2, ⟨s0, cs2.σ, cs2.nxt⟩, R2, hle.trans (hle1.trans hle2), hm2, rfl, rfl⟩
      | rt cs2 =>
        simp only at htot
        subst htot
        intro R2 st2 hle2 hs2
        obtain ⟨σ2, hb2, hm2⟩ := beside_back hm hs2.mem
        exact ⟨σ2, hb2, ⟨s0, cs2.σ, cs2.nxt⟩, R2, hle.trans (hle1.trans hle2), hm2, rfl, rfl⟩
      | bad =>
        simp only at htot
        subst htot
        exact hthen.elim
    | ex id cs1 => simp only at htot; subst htot; exact hthen.elim
    | rt cs1 => simp only at htot; subst htot; exact hthen.elim
    | bad => simp only at htot; subst htot; exact hthen.elim
  · rintro σ' ⟨σc, nx, R', hle, hm, htot⟩
    rw [List.drop_length] at htot
    simp only [rngQ] at htot
    subst htot
    exact hthen R' _ hle ⟨fun i => VRel.mono hle _ _ (hs.slot i), hm⟩
  · rintro id hid pre σ' - ⟨cs', R', hle, hm, h1, h2⟩
    simp only at h2
    subst h2
    obtain ⟨k', h3, h4⟩ := hthen
    refine Runs.exit h3 (h4 R' _ hle ⟨fun i => ?_, hm⟩)
    show VRel R' (getP (.tup []) i cs'.s) _
    rw [h1]
    exact VRel.mono hle _ _ (hs.slot i)
  · rintro pre σ' - ⟨cs', R', hle, hm, h1, h2⟩
    simp only at h2
    subst h2
    refine Runs.ret (hthen R' _ hle ⟨fun i => ?_, hm⟩)
    show VRel R' (getP (.tup []) i cs'.s) _
    rw [h1]
    exact VRel.mono hle _ _ (hs.slot i)
def LOk2 (P : Program) (T : Tb) (fuel : Nat) : Prop := ∀ (n : Nat) (K : Store) (fl : Nat) (R : Nat → Nat → Prop) (c : VCode) (cs : CS) (st : St) (k : List It) (Q : St → Prop),
  okCode2 c = true → SRel K fl R cs st → Then P n K fl R k Q (evL2 T fuel fl c cs) → Runs P n (.code c :: k) st Q
theorem code_ok2 {T : Tb} {fuel : Nat} (ih : LOk2 P T fuel) {g : FuncId} {vf : VFn} (hk : callable P g = true ∧ okFn2 vf = true ∧ ∃ fn, P.funcs[g]? = some fn ∧ cfn P fn = some vf) {args : List V} {σc : Tr (Option Ob)} {nxt fl : Nat} {r : Rs}
    (hlen : args.length ≤ vf.n) (hr : outQ vf.res (evL2 T fuel fl vf.code ⟨Tr.ofL args 0 .e, σc, nxt⟩) = some r) {K : Store} {R : Nat → Nat → Prop} {σ : Store} {args' : List V} (hm : MRel K fl R (stF σc) nxt σ) (hargs : VRelL R args args') :
    Contract P g args' σ fun v σ' => ∃ R', Le R R' ∧ VRel R' r.v v ∧ MRel K fl R' (stF r.σ) r.nxt σ' := by
  obtain ⟨hcl, hok, fn, hf, hcf⟩ := hk
  simp only [okFn2, Bool.and_eq_true] at hok
  refine Contract.of_runs hf hcf hcl (by rw [hargs.length]; exact hlen) ?_
  have hs : SRel K fl R ⟨Tr.ofL args 0 .e, σc, nxt⟩ ⟨argSlots args', σ⟩ := by
    refine ⟨fun i => ?_, hm⟩
    show VRel R (getP (.tup []) i (Tr.ofL args 0 .e)) (args'.getD i (.tup []))
    rw [ofL_get, getP_e]
    by_cases hi : i < args.length
    · rw [if_pos ⟨Nat.zero_le _, by omega⟩, Nat.sub_zero]
      obtain ⟨u, h1, h2⟩ := hargs.get (List.getElem?_eq_getElem hi)
      simp only [List.getD_eq_getElem?_getD, h1, List.getElem?_eq_getElem hi, Option.getD_some]
      exact h2
    · rw [if_neg (by omega)]
      have : args'[i]? = none := List.getElem?_eq_none (by rw [hargs.length]; omega)
      simp only [List.getD_eq_getElem?_getD, this, Option.getD_none]
      simp [VRel, VRelL]
  have hfin : ∀ cs', resQ vf.res cs' = some r → ∀ R' st, Le R R' → SRel K fl R' cs' st → Ret vf.res st fun v σ' => ∃ R', Le R R' ∧ VRel R' r.v v ∧ MRel K fl R' (stF r.σ) r.nxt σ' := by
    intro cs' hq R' st hle hs'
    unfold resQ at hq
    split at hq
    · rename_i v hv
      simp only [Option.some.injEq] at hq
      subst hq
      obtain ⟨v', g1, g2⟩ := resV_rel hs' hok.2 hv
      exact ⟨v', v', st.σ, g1, SubStore.refl _, Wk.refl (SubStore.refl _) _, R', hle, g2, hs'.mem⟩
    · cases hq
  refine ih vf.n K fl R vf.code _ _ [] _ hok.1 hs ?_
  generalize evL2 T fuel fl vf.code ⟨Tr.ofL args 0 .e, σc, nxt⟩ = o at hr
  cases o <;> simp only [outQ, reduceCtorEq] at hr
  · exact fun R' st hle hs' => Runs.nil (hfin _ hr R' st hle hs')
  · exact fun R' st hle hs' => hfin _ hr R' st hle hs'
theorem evZ_ok {T : Tb} {fuel : Nat} (ih : LOk2 P T fuel) {g : FuncId} {vf : VFn} (hk : callable P g = true ∧ okFn2 vf = true ∧ ∃ fn, P.funcs[g]? = some fn ∧ cfn P fn = some vf) {args : List V} {v : V}
    (h : evZ (evL2 T fuel) vf args = some v) (ha : noidL args = true) : PFun P g args v := by
  intro σ
  unfold evZ at h
  rw [bcase] at h
  split at h
  · rename_i hlen
    split at h
    · rename_i r hr
      have hm : MRel σ 0 (fun _ _ => False) (stF .e) 0 σ := ⟨fun _ _ h => h.elim, fun _ _ _ h => h.elim, fun _ _ _ _ _ h => h.elim, fun _ _ _ h => h.elim, SubStore.refl σ, fun _ _ _ _ _ h => h.elim⟩
      refine (code_ok2 ih hk (Nat.le_of_ble_eq_true hlen) hr hm (noidL_refl args ha)).weak ?_
      rintro u σ' ⟨R', _, h1, h2⟩
      refine ⟨v, σ, h2.keep, (fzQ_ok h2.live 40 r.v u v h h1).wk h2.keep ?_, rfl, rfl⟩
      rintro a ⟨c, o, hc, ho⟩
      cases hk : σ a with
      | none => rfl
      | some x => have := h2.kfl a x c o hk hc ho; omega
    · cases h
  · cases h
theorem call_ok2 {T : Tb} (hT : TOk P T) {fuel : Nat} (ih : LOk2 P T fuel) : CallOk P (evF2 (evL2 T fuel) T.fn) := by
  intro g args σc nxt fl r hr K R σ args' hm hargs
  unfold evF2 at hr
  split at hr
  · cases hr
  · rename_i kd hkd
    have hok := hT.fn g kd hkd
    split at hr
    · rename_i vf
      rw [bcase] at hr
      split at hr
      · rename_i hlen
        exact code_ok2 ih hok (Nat.le_of_ble_eq_true hlen) hr hm hargs
      · cases hr
    · rename_i vf
      exact fzCall_ok (fun as1 v h1 h2 _ => evZ_ok ih hok h1 h2) hr hm hargs
    · exact fzCall_ok hok hr hm hargs
theorem evL2_succ (T : Tb) (f fl : Nat) (c : VCode) (cs : CS) : evL2 T (f + 1) fl c cs = match c with
      | .skip => .nx cs
      | .reg draw l => evOps2 draw (evF2 (evL2 T f) T.fn) fl l cs
      | .seq a b => onNx (evL2 T f fl a cs) fun cs' => evL2 T f fl b cs'
      | .cond c a b => onB (c.ev cs.sf) (evL2 T f fl a cs) (evL2 T f fl b cs)
      | .block id a => onEx id (evL2 T f fl a cs)
      | .loop a => onNx (evL2 T f fl a cs) fun cs' => evL2 T f fl (.loop a) cs'
      | .exit id => .ex id cs
      | .ret => .rt cs
      | .rangeF g ps a b => evR (evL2 T f) T.it fl g ps a b cs
      | .regA l deps => evA (evF2 (evL2 T f) T.fn) fl l deps cs
      | .regL l e => onNx (evOps2 true (evF2 (evL2 T f) T.fn) fl l cs) fun cs' => evOps2 false (evF2 (evL2 T f) T.fn) fl e cs'
      | .bad => .bad := rfl
theorem evL2_ok {T : Tb} (hT : TOk P T) : ∀ fuel, LOk2 P T fuel := by
  intro fuel
  induction fuel using Nat.strongRecOn with
  | _ fuel ih =>
    intro n K fl R c cs st k Q hok hs hthen
    cases fuel with
    | zero => exact hthen.elim
    | succ f =>
      have ihf := ih f (by omega)
      have hcall := call_ok2 hT ihf
      rw [evL2_succ] at hthen
      cases c with
      | skip => exact Runs.skip (hthen R st (Le.refl R) hs)
      | reg draw l =>
        simp only [okCode2] at hok
        simp only [evOps2] at hthen
        cases draw
        · simp only at hthen
          rcases evOps2N_nx (call := evF2 (evL2 T f) T.fn) (fl := fl) 1000 l cs with ⟨cs', he⟩ | he
          · rw [he] at hthen
            exact Runs.region (ops_run2 hcall 1000 l R cs st he hok hs hthen)
          · rw [he] at hthen; exact hthen.elim
        · simp only at hthen
          rcases evOps3N_nx (call := evF2 (evL2 T f) T.fn) (fl := fl) 1000 l cs with ⟨cs', he⟩ | he
          · rw [he] at hthen
            exact Runs.dregion (ops_T3 hcall 1000 l R cs st he hok hs hthen)
          · rw [he] at hthen; exact hthen.elim
      | seq a b =>
        simp only [okCode2, Bool.and_eq_true] at hok
        refine Runs.seq (ihf n K fl R a cs st _ Q hok.1 hs ?_)
        simp only [onNx] at hthen
        generalize evL2 T f fl a cs = o at hthen
        cases o with
        | nx cs1 => exact fun R1 st1 hle1 hs1 => ihf n K fl R1 b cs1 st1 k Q hok.2 hs1 (hthen.le hle1)
        | ex id cs1 => exact hthen
        | rt cs1 => exact hthen
        | bad => exact hthen
      | cond c a b =>
        simp only [okCode2, Bool.and_eq_true] at hok
        have hv := ev_rel hs.slot hok.1
        have hthen : Then P n K fl R k Q (onB (c.ev cs.sf) (evL2 T f fl a cs) (evL2 T f fl b cs)) := hthen
        unfold onB at hthen
        split at hthen
        · rename_i t ht
          rw [ht, VRel.bool_iff] at hv
          refine Runs.cond hv (fun e => ?_) (fun e => ?_)
          · subst e; exact ihf n K fl R a cs st k Q hok.2.1 hs hthen
          · subst e; exact ihf n K fl R b cs st k Q hok.2.2 hs hthen
        · exact hthen.elim
      | block id a =>
        simp only [okCode2] at hok
        refine Runs.block (ihf n K fl R a cs st _ Q hok hs ?_)
        simp only [onEx] at hthen
        generalize evL2 T f fl a cs = o at hthen
        cases o with
        | nx cs1 => exact fun R1 st1 hle1 hs1 => Runs.inBlock (hthen R1 st1 hle1 hs1)
        | ex j cs1 =>
          simp only [brec] at hthen
          by_cases hj : j = id
          · subst hj
            rw [if_pos (by rw [Nat.beq_eq])] at hthen
            exact ⟨k, by simp [popTo], hthen⟩
          · rw [if_neg (by rw [Nat.beq_eq]; exact hj)] at hthen
            obtain ⟨k', h1, h2⟩ := hthen
            exact ⟨k', by simp [popTo, hj, h1], h2⟩
        | rt cs1 => exact hthen
        | bad => exact hthen
      | loop a =>
        have hok' := hok
        simp only [okCode2] at hok
        have hthen0 : Then P n K fl R k Q (evL2 T (f + 1) fl (.loop a) cs) := hthen
        generalize ho : evL2 T (f + 1) fl (.loop a) cs = o at hthen0
        refine Runs.loop (fun m st => m ≤ f + 1 ∧ ∃ R1 cs1, Le R R1 ∧ SRel K fl R1 cs1 st ∧ evL2 T m fl (.loop a) cs1 = o) (f + 1) ⟨Nat.le_refl _, R, cs, Le.refl R, hs, ho⟩ ?_
        rintro m st1 ⟨hm, R1, cs1, hle1, hs1, ho1⟩
        cases m with
        | zero =>
          have : o = .bad := ho1.symm
          rw [this] at hthen0; exact hthen0.elim
        | succ m =>
          have ihm := ih m (by omega)
          rw [evL2_succ] at ho1
          refine ihm n K fl R1 a cs1 st1 _ Q hok hs1 ?_
          simp only [onNx] at ho1
          generalize evL2 T m fl a cs1 = o1 at ho1
          cases o1 with
          | nx cs2 => exact fun R2 st2 hle2 hs2 => Runs.stop ⟨m, by omega, by omega, R2, cs2, hle1.trans hle2, hs2, ho1⟩
          | ex id cs2 =>
            have ho1 : Out.ex id cs2 = o := ho1
            rw [← ho1] at hthen0
            obtain ⟨k', h1, h2⟩ := hthen0
            exact ⟨k', by simpa [popTo] using h1, fun R2 st2 hle2 hs2 => h2 R2 st2 (hle1.trans hle2) hs2⟩
          | rt cs2 =>
            have ho1 : Out.rt cs2 = o := ho1
            rw [← ho1] at hthen0
            exact fun R2 st2 hle2 hs2 => hthen0 R2 st2 (hle1.trans hle2) hs2
          | bad =>
            have ho1 : Out.bad = o := ho1
            rw [← ho1] at hthen0; exact hthen0.elim
      | exit id =>
        obtain ⟨k', h1, h2⟩ := hthen
        exact Runs.exit h1 (h2 R st (Le.refl R) hs)
      | ret => exact Runs.ret (hthen R st (Le.refl R) hs)
      | rangeF g ps a b =>
        simp only [okCode2, Bool.and_eq_true] at hok
        have hthen : Then P n K fl R k Q (evR (evL2 T f) T.it fl g ps a b cs) := hthen
        unfold evR at hthen
        rw [bcase] at hthen
        split at hthen
        · rename_i hfl
          have hfl := Nat.eq_of_beq_eq_true hfl
          subst hfl
          split at hthen
          · rename_i d _
            split at hthen
            · rename_i gf caps hd
              split at hthen
              · rename_i h hI
                split at hthen
                · rename_i caps' hcaps
                  split at hthen
                  · rename_i xs hxs
                    unfold rngG at hthen
                    rw [bcase] at hthen
                    split at hthen
                    · rename_i hall
                      have hno := fzLQ_noid (fzQ_noid 40 cs.σ) hcaps
                      have hit := hT.it gf h hI caps' xs hxs hno
                      obtain ⟨σ', g1, g2, g3⟩ := delLQ_rel (idLQ (idsQ 40 cs.σ) caps) cs.σ st.σ hs.mem
                      have hslot := hs.slot d
                      rw [hd] at hslot
                      simp only [VRel] at hslot
                      obtain ⟨caps2, hd2, hcr⟩ := hslot
                      have hfz : FzL st.σ (fun a => σ' a = none) caps2 caps' := fzLQ_okN hs.mem.live _ _ _ hcaps hcr g3
                      have hw : Weak st ⟨putO st.s (some d) (.fn gf caps'), σ'⟩ := ⟨g1, fun i => by
                        show Wk st.σ σ' (st.s i) (if i = d then .fn gf caps' else st.s i)
                        split
                        · rename_i e
                          subst e
                          rw [hd2]
                          exact (Fz.fn gf _ _ hfz).wk g1 (fun _ h => h)
                        · exact Wk.refl g1 _⟩
                      refine Runs.weaken hw ?_
                      refine rng_ok (run := evL2 T f) (fun K R c cs st k Q => ihf n K 0 R c cs st k Q) hit hok.1 hok.2 hall (st := ⟨putO st.s (some d) (.fn gf caps'), σ'⟩) ⟨fun i => ?_, g2⟩ (by simp [putO]) hthen
                      show VRel R (getP (.tup []) i (setP (.tup []) (.fn gf caps') d cs.s)) (if i = d then .fn gf caps' else st.s i)
                      rw [getP_set]
                      split
                      · exact noid_refl _ (by simpa [V.noid] using hno)
                      · exact hs.slot i
                    · exact hthen.elim
                  · exact hthen.elim
                · exact hthen.elim
              · exact hthen.elim
            · exact hthen.elim
          · exact hthen.elim
        · exact hthen.elim
      | regA l deps =>
        simp only [okCode2] at hok
        have hthen : Then P n K fl R k Q (evA (evF2 (evL2 T f) T.fn) fl l deps cs) := hthen
        unfold evA at hthen
        cases hp : planR l deps with
        | none => rw [hp] at hthen; exact hthen.elim
        | some t =>
          rw [hp] at hthen
          have hthen : Then P n K fl R k Q (evT (evF2 (evL2 T f) T.fn) fl l 8 [] t cs) := hthen
          rcases evT_nx (call := evF2 (evL2 T f) T.fn) (fl := fl) (l := l) 8 [] t cs with ⟨cs', hx⟩ | hx
          · rw [hx] at hthen
            exact Runs.regT hT.mix 8 t (planR_ok hp) (evT_ok hcall hok 8 [] t R cs st hx hs hthen)
          · rw [hx] at hthen; exact hthen.elim
      | regL l e =>
        simp only [okCode2, Bool.and_eq_true] at hok
        have hthen : Then P n K fl R k Q (onNx (evOps2 true (evF2 (evL2 T f) T.fn) fl l cs) fun cs' => evOps2 false (evF2 (evL2 T f) T.fn) fl e cs') := hthen
        simp only [evOps2] at hthen
        rcases evOps3N_nx (call := evF2 (evL2 T f) T.fn) (fl := fl) 1000 l cs with ⟨cs', he⟩ | he
        · rw [he] at hthen
          simp only [onNx] at hthen
          rcases evOps2N_nx (call := evF2 (evL2 T f) T.fn) (fl := fl) 1000 e cs' with ⟨cs2, he2⟩ | he2
          · rw [he2] at hthen
            refine Runs.regL (ops_T3 hcall 1000 l R cs st he hok.1 hs fun R' st' hle hs' => ?_)
            exact ops_run2 hcall 1000 e R' cs' st' he2 hok.2 hs' (hthen.le hle)
          · rw [he2] at hthen; exact hthen.elim
        · rw [he] at hthen; exact hthen.elim
      | bad => exact hthen.elim
end Go.Vc
namespace Go.Vc
def tbF (P : Program) (z : FuncId → Bool) (o : FuncId → Option (List V → Option V)) : FuncId → Option Fk := fun f => match o f with
  | some g => some (.orc g)
  | none => match P.funcs[f]? with
    | some fn => (match cfn P fn with
      | some vf => @Bool.casesOn (fun _ => Option Fk) (callable P f && okFn2 vf) none (some (@Bool.casesOn (fun _ => Fk) (z f) (.fz vf) (.code vf)))
      | none => none)
    | none => none
theorem tbF_ok {P : Program} (hm : P.follows .mixedOrders = true) (z : FuncId → Bool) {o : FuncId → Option (List V → Option V)} {it : FuncId → Option (List V → Option (List (List V)))}
    (ho : ∀ f g, o f = some g → ∀ as1 v, g as1 = some v → noidL as1 = true → v.noid = true → PFun P f as1 v) (hi : ∀ g h, it g = some h → ∀ caps xs, h caps = some xs → noidL caps = true → Iter P g caps xs) :
    TOk P ⟨tbF P z o, it⟩ := by
  refine ⟨hm, fun g k h => ?_, hi⟩
  simp only [tbF] at h
  split at h
  · rename_i og hog
    simp only [Option.some.injEq] at h; subst h
    exact ho g og hog
  · split at h
    · rename_i fn hfn
      split at h
      · rename_i vf hvf
        rw [brec] at h
        split at h
        · rename_i hc
          simp only [Bool.and_eq_true] at hc
          simp only [Option.some.injEq] at h; subst h
          have hk : callable P g = true ∧ okFn2 vf = true ∧ ∃ fn, P.funcs[g]? = some fn ∧ cfn P fn = some vf := ⟨hc.1, hc.2, fn, hfn, hvf⟩
          cases z g <;> exact hk
        · cases h
      · cases h
    · cases h
def ev3 (P : Program) (T : Tb) (fuel : Nat) (f : FuncId) (args : List V) : Option V := match P.funcs[f]? with
  | some fn => (match cfn P fn with
    | some vf => @Bool.casesOn (fun _ => Option V) (callable P f && okFn2 vf) none (evZ (evL2 T fuel) vf args)
    | none => none)
  | none => none
def ev3B (P : Program) (T : Tb) (fuel : Nat) (f : FuncId) (args : List V) (v : V) : Bool := match ev3 P T fuel f args with
  | some u => eqVQ 40 u v
  | none => false
theorem PFun.of_ev3 {P : Program} {T : Tb} (hT : TOk P T) (fuel : Nat) {f : FuncId} {args : List V} {v : V} (ha : noidL args = true) (h : ev3B P T fuel f args v = true) : PFun P f args v := by
  unfold ev3B at h
  split at h
  · rename_i u hu
    rw [← eqVQ_eq 40 u v h]
    unfold ev3 at hu
    split at hu
    · rename_i fn hfn
      split at hu
      · rename_i vf hvf
        rw [bcase] at hu
        split at hu
        · rename_i hc
          simp only [Bool.and_eq_true] at hc
          exact evZ_ok (evL2_ok hT fuel) ⟨hc.1, hc.2, fn, hfn, hvf⟩ hu ha
        · cases hu
      · cases hu
    · cases hu
  · cases h
end Go.Vc
namespace Go.Vc
structure YCf where
  cs : CS
  i : Nat
  stop : Bool
  log : List (List V)
inductive YOut where
  | nx (c : YCf)
  | ex (id : Nat) (c : YCf)
  | rt (c : YCf)
def bindL {α β : Type} (f : α → Option (List β)) : List α → Option (List β)
  | [] => some []
  | a :: l => match f a with
    | some x => (match bindL f l with
      | some y => some (x ++ y)
      | none => none)
    | none => none
def nxY (k : YCf → Option (List YOut)) (o : YOut) : Option (List YOut) := match o with
  | .nx c => k c
  | .ex id c => some [.ex id c]
  | .rt c => some [.rt c]
def bindY (o : Option (List YOut)) (k : YCf → Option (List YOut)) : Option (List YOut) := match o with
  | some l => bindL (nxY k) l
  | none => none
def unblk (id : Nat) (o : YOut) : YOut := match o with
  | .nx c => .nx c
  | .ex j c => @Bool.casesOn (fun _ => YOut) (Nat.beq j id) (.ex j c) (.nx c)
  | .rt c => .rt c
def plainY (c : YCf) (o : Out) : Option (List YOut) := match o with
  | .nx cs => some [.nx ⟨cs, c.i, c.stop, c.log⟩]
  | .ex id cs => some [.ex id ⟨cs, c.i, c.stop, c.log⟩]
  | .rt cs => some [.rt ⟨cs, c.i, c.stop, c.log⟩]
  | .bad => none
def nxs : List YCf → List YOut
  | [] => []
  | c :: l => .nx c :: nxs l
def yieldQ (xs : Option (List (List V))) (dst : Option Nat) (args : List V) (c : YCf) : Option (List YCf) := match xs with
  | none => @Bool.casesOn (fun _ => Option (List YCf)) (noidL args) none (some [⟨c.cs.put dst (.bool true), Nat.succ c.i, false, args :: c.log⟩])
  | some l => match l[c.i]? with
    | some x => @Bool.casesOn (fun _ => Option (List YCf)) (noidL args && (eqLQ (eqVQ 40) args x && !c.stop)) none
        (some [⟨c.cs.put dst (.bool true), Nat.succ c.i, false, []⟩, ⟨c.cs.put dst (.bool false), Nat.succ c.i, true, []⟩])
    | none => none
def endY (res : List VR) (dst : Option Nat) (c : YCf) (o : YOut) : Option (List YCf) := match o with
  | .ex _ _ => none
  | .nx c1 => (match resQ res c1.cs with
    | some r => some [⟨CS.put ⟨c.cs.s, r.σ, r.nxt⟩ dst r.v, c1.i, c1.stop, c1.log⟩]
    | none => none)
  | .rt c1 => (match resQ res c1.cs with
    | some r => some [⟨CS.put ⟨c.cs.s, r.σ, r.nxt⟩ dst r.v, c1.i, c1.stop, c1.log⟩]
    | none => none)
def callY (run : VCode → YCf → Option (List YOut)) (vf : VFn) (dst : Option Nat) (args : List V) (c : YCf) : Option (List YCf) :=
  @Bool.casesOn (fun _ => Option (List YCf)) (Nat.ble args.length vf.n) none (match run vf.code ⟨⟨Tr.ofL args 0 .e, c.cs.σ, c.cs.nxt⟩, c.i, c.stop, c.log⟩ with
    | some outs => bindL (endY vf.res dst c) outs
    | none => none)
def plnY (call : CallT) (i : VIns) (c : YCf) : Option (List YCf) := match (compI2 i).f call 0 c.cs with
  | some cs' => some [⟨cs', c.i, c.stop, c.log⟩]
  | none => none
def insY (T : Tb) (call : CallT) (run : VCode → YCf → Option (List YOut)) (xs : Option (List (List V))) (i : VIns) (c : YCf) : Option (List YCf) := match i.op with
  | .call fx args => (match wantV c.cs.sf i.g with
    | some true => (match fx.ev c.cs.sf with
      | .yl j => @Bool.casesOn (fun _ => Option (List YCf)) (Nat.beq j 0) none (yieldQ xs i.dst (args.map (·.ev c.cs.sf)) c)
      | .fn f caps => (match T.fn f with
        | some (.code vf) => callY run vf i.dst (args.map (·.ev c.cs.sf) ++ caps) c
        | _ => plnY call i c)
      | _ => plnY call i c)
    | some false => some [⟨c.cs.put i.dst (.tup []), c.i, c.stop, c.log⟩]
    | none => none)
  | _ => plnY call i c
def opsY (f : VIns → YCf → Option (List YCf)) : List VIns → YCf → Option (List YCf)
  | [], c => some [c]
  | i :: l, c => match f i c with
    | some cs => bindL (opsY f l) cs
    | none => none
def opsO (o : Option (List YCf)) : Option (List YOut) := match o with
  | some l => some (nxs l)
  | none => none
def onY (v : V) (a b : Option (List YOut)) : Option (List YOut) := match v with
  | .bool t => @Bool.casesOn (fun _ => Option (List YOut)) t b a
  | _ => none
def blkY (id : Nat) (o : Option (List YOut)) : Option (List YOut) := match o with
  | some l => some (l.map (unblk id))
  | none => none
def evY (T : Tb) (xs : Option (List (List V))) (fuel : Nat) : VCode → YCf → Option (List YOut) :=
  @Nat.rec (fun _ => VCode → YCf → Option (List YOut)) (fun _ _ => none)
    (fun f ih c y => match c with
      | .skip => some [.nx y]
      | .reg draw l => @Bool.casesOn (fun _ => Option (List YOut)) draw (opsO (opsY (insY T (evF2 (evL2 T f) T.fn) ih xs) l y)) (plainY y (evL2 T (f + 1) 0 (.reg true l) y.cs))
      | .seq a b => bindY (ih a y) (ih b)
      | .cond x a b => onY (x.ev y.cs.sf) (ih a y) (ih b y)
      | .block id a => blkY id (ih a y)
      | .loop a => bindY (ih a y) (ih (.loop a))
      | .exit id => some [.ex id y]
      | .ret => some [.rt y]
      | .rangeF g ps a b => plainY y (evL2 T (f + 1) 0 (.rangeF g ps a b) y.cs)
      | .regA l deps => plainY y (evL2 T (f + 1) 0 (.regA l deps) y.cs)
      | .regL l e => (match evOps2 true (evF2 (evL2 T f) T.fn) 0 l y.cs with
        | .nx cs' => opsO (opsY (insY T (evF2 (evL2 T f) T.fn) ih xs) e ⟨cs', y.i, y.stop, y.log⟩)
        | _ => none)
      | .bad => none) fuel
theorem bindL_mem {α β : Type} {f : α → Option (List β)} : ∀ {l : List α} {r : List β}, bindL f l = some r → ∀ a ∈ l, ∃ x, f a = some x ∧ ∀ b ∈ x, b ∈ r
  | [], _, _, a, ha => by simp at ha
  | a :: l, r, h, a', ha => by
    simp only [bindL] at h
    split at h
    · rename_i x hx
      split at h
      · rename_i y hy
        simp only [Option.some.injEq] at h; subst h
        rcases List.mem_cons.1 ha with rfl | ha
        · exact ⟨x, hx, fun b hb => List.mem_append_left _ hb⟩
        · obtain ⟨z, h1, h2⟩ := bindL_mem hy a' ha
          exact ⟨z, h1, fun b hb => List.mem_append_right _ (h2 b hb)⟩
      · cases h
    · cases h
theorem nxs_mem : ∀ {l : List YCf} {c : YCf}, c ∈ l → YOut.nx c ∈ nxs l
  | a :: l, c, h => by
    rcases List.mem_cons.1 h with rfl | h
    · simp [nxs]
    · simp [nxs, nxs_mem h]
variable {P : Program} {n : Nat}
section
variable {idl : Nat} {J Jx : List (List V) → Store → Prop} {xs : List (List V)}
def YI (J Jx : List (List V) → Store → Prop) (xs : List (List V)) (c : YCf) (σJ : Store) : Prop := (c.stop = false → J (xs.take c.i) σJ) ∧ (c.stop = true → ∃ pre, pre <+: xs ∧ Jx pre σJ)
def YR (idl : Nat) (J Jx : List (List V) → Store → Prop) (xs : List (List V)) (R : Nat → Nat → Prop) (c : YCf) (st : St) : Prop := R 0 idl ∧ ∃ σJ, YI J Jx xs c σJ ∧ SRel σJ 0 R c.cs st
def ThenY (P : Program) (idl : Nat) (J Jx : List (List V) → Store → Prop) (xs : List (List V)) (n : Nat) (R : Nat → Nat → Prop) (k : List It) (Q : St → Prop) : YOut → Prop
  | .nx c => ∀ R' st, Le R R' → YR idl J Jx xs R' c st → Runs P n k st Q
  | .ex id c => ∃ k', popTo id k = some k' ∧ ∀ R' st, Le R R' → YR idl J Jx xs R' c st → Runs P n k' st Q
  | .rt c => ∀ R' st, Le R R' → YR idl J Jx xs R' c st → Q st
theorem ThenY.le {R R' : Nat → Nat → Prop} {k : List It} {Q : St → Prop} {o : YOut} (h : ThenY P idl J Jx xs n R k Q o) (hle : Le R R') : ThenY P idl J Jx xs n R' k Q o := by
  cases o
  case ex => obtain ⟨k', h1, h2⟩ := h; exact ⟨k', h1, fun R'' st h3 h4 => h2 R'' st (hle.trans h3) h4⟩
  all_goals exact fun R'' st h3 h4 => h R'' st (hle.trans h3) h4
def HY (P : Program) (idl : Nat) (J Jx : List (List V) → Store → Prop) (xs : List (List V)) : Prop := ∀ pre x post σJ σ, xs = pre ++ x :: post → J pre σJ → SubStore σJ σ →
      YC P idl x σ fun b σ' => ∃ σJ', Beside σJ σ σJ' σ' ∧ ((b = true ∧ J (pre ++ [x]) σJ') ∨ (b = false ∧ Jx (pre ++ [x]) σJ'))
def LY (P : Program) (idl : Nat) (J Jx : List (List V) → Store → Prop) (xs : List (List V)) (run : VCode → YCf → Option (List YOut)) : Prop := ∀ (n : Nat) (R : Nat → Nat → Prop) (code : VCode) (c : YCf) (st : St) (k : List It) (Q : St → Prop) (outs : List YOut),
  okCode2 code = true → YR idl J Jx xs R c st → run code c = some outs → (∀ o ∈ outs, ThenY P idl J Jx xs n R k Q o) → Runs P n (.code code :: k) st Q
theorem code_okY {run : VCode → YCf → Option (List YOut)} (ih : LY P idl J Jx xs run) {g : FuncId} {vf : VFn} (hk : callable P g = true ∧ okFn2 vf = true ∧ ∃ fn, P.funcs[g]? = some fn ∧ cfn P fn = some vf) {args : List V} {c : YCf} {dst : Option Nat} {outs : List YOut} {rs : List YCf}
    (hlen : args.length ≤ vf.n) (hr : run vf.code ⟨⟨Tr.ofL args 0 .e, c.cs.σ, c.cs.nxt⟩, c.i, c.stop, c.log⟩ = some outs) (hrs : bindL (endY vf.res dst c) outs = some rs) {R : Nat → Nat → Prop} {σJ σ : Store} {args' : List V} (h0 : R 0 idl) (hI : YI J Jx xs c σJ)
    (hm : MRel σJ 0 R (stF c.cs.σ) c.cs.nxt σ) (hargs : VRelL R args args') :
    Contract P g args' σ fun v σ' => ∃ (c1 : YCf) (r : Rs) (R' : Nat → Nat → Prop) (σJ' : Store), (⟨CS.put ⟨c.cs.s, r.σ, r.nxt⟩ dst r.v, c1.i, c1.stop, c1.log⟩ : YCf) ∈ rs ∧ Le R R' ∧ VRel R' r.v v ∧ YI J Jx xs c1 σJ' ∧ MRel σJ' 0 R' (stF r.σ) r.nxt σ' := by
  obtain ⟨hcl, hok, fn, hf, hcf⟩ := hk
  simp only [okFn2, Bool.and_eq_true] at hok
  refine Contract.of_runs hf hcf hcl (by rw [hargs.length]; exact hlen) ?_
  have hs : SRel σJ 0 R ⟨Tr.ofL args 0 .e, c.cs.σ, c.cs.nxt⟩ ⟨argSlots args', σ⟩ := by
    refine ⟨fun i => ?_, hm⟩
    show VRel R (getP (.tup []) i (Tr.ofL args 0 .e)) (args'.getD i (.tup []))
    rw [ofL_get, getP_e]
    by_cases hi : i < args.length
    · rw [if_pos ⟨Nat.zero_le _, by omega⟩, Nat.sub_zero]
      obtain ⟨u, h1, h2⟩ := hargs.get (List.getElem?_eq_getElem hi)
      simp only [List.getD_eq_getElem?_getD, h1, List.getElem?_eq_getElem hi, Option.getD_some]
      exact h2
    · rw [if_neg (by omega)]
      have : args'[i]? = none := List.getElem?_eq_none (by rw [hargs.length]; omega)
      simp only [List.getD_eq_getElem?_getD, this, Option.getD_none]
      simp [VRel, VRelL]
  have hfin : ∀ c1, (∃ x, (match resQ vf.res c1.cs with | some r => some [(⟨CS.put ⟨c.cs.s, r.σ, r.nxt⟩ dst r.v, c1.i, c1.stop, c1.log⟩ : YCf)] | none => none) = some x ∧ ∀ b ∈ x, b ∈ rs) → ∀ R' st, Le R R' → YR idl J Jx xs R' c1 st →
      Ret vf.res st fun v σ' => ∃ (c1 : YCf) (r : Rs) (R' : Nat → Nat → Prop) (σJ' : Store), (⟨CS.put ⟨c.cs.s, r.σ, r.nxt⟩ dst r.v, c1.i, c1.stop, c1.log⟩ : YCf) ∈ rs ∧ Le R R' ∧ VRel R' r.v v ∧ YI J Jx xs c1 σJ' ∧ MRel σJ' 0 R' (stF r.σ) r.nxt σ' := by
    rintro c1 ⟨x, hx, hmem⟩ R' st hle ⟨_, σJ', hI', hs'⟩
    split at hx
    · rename_i r hq
      simp only [Option.some.injEq] at hx; subst hx
      have hq0 := hq
      unfold resQ at hq
      split at hq
      · rename_i v hv
        simp only [Option.some.injEq] at hq
        obtain ⟨v', g1, g2⟩ := resV_rel hs' hok.2 hv
        refine ⟨v', v', st.σ, g1, SubStore.refl _, Wk.refl (SubStore.refl _) _, c1, r, R', σJ', hmem _ (by simp), hle, ?_, hI', ?_⟩
        · rw [← hq]; exact g2
        · rw [← hq]; exact hs'.mem
      · cases hq
    · cases hx
  refine ih vf.n R vf.code ⟨⟨Tr.ofL args 0 .e, c.cs.σ, c.cs.nxt⟩, c.i, c.stop, c.log⟩ _ [] _ outs hok.1 ⟨h0, σJ, hI, hs⟩ hr fun o ho => ?_
  have hb := bindL_mem hrs o ho
  cases o with
  | nx c1 => exact fun R' st hle hs' => Runs.nil (hfin c1 hb R' st hle hs')
  | ex id c1 => obtain ⟨x, hx, _⟩ := hb; simp [endY] at hx
  | rt c1 => exact fun R' st hle hs' => hfin c1 hb R' st hle hs'
theorem YI.put {c : YCf} {cs : CS} {σJ : Store} (h : YI J Jx xs c σJ) : YI J Jx xs ⟨cs, c.i, c.stop, c.log⟩ σJ := h
theorem want_rel {R : Nat → Nat → Prop} {s s' : Nat → V} (h : ∀ i, VRel R (s i) (s' i)) {g : Option (VX × Bool)} (hg : (match g with | some (x, _) => okX x | none => true) = true) {b : Bool} (hw : wantV s g = some b) : wantV s' g = some b := by
  unfold wantV at hw ⊢
  split at hw
  · exact hw
  · rename_i x t
    have hv := ev_rel h (x := x) hg
    split at hw
    · rename_i c hc
      rw [hc, VRel.bool_iff] at hv
      rw [hv]; exact hw
    · rename_i hc
      rw [hc] at hv
      simp only [VRel, VRelL] at hv
      obtain ⟨_, hv, rfl⟩ := hv
      rw [hv]; exact hw
    · rename_i hc
      rw [hc, VRel.int_iff] at hv
      rw [hv]; exact hw
    · cases hw
theorem insY_run (hy : HY P idl J Jx xs) {T : Tb} (hT : TOk P T) {call : CallT} (hc : CallOk P call) {run : VCode → YCf → Option (List YOut)} (ih : LY P idl J Jx xs run) {i : VIns} {l : List VIns} {R : Nat → Nat → Prop} {c : YCf} {st : St} {k : List It} {Q : St → Prop} {cs : List YCf}
    (hok : okIns i = true) (h : YR idl J Jx xs R c st) (hr : insY T call run (some xs) i c = some cs)
    (hk : ∀ c' ∈ cs, ∀ R' st', Le R R' → YR idl J Jx xs R' c' st' → Runs P n (.ops l :: k) st' Q) : Runs P n (.ops (i :: l) :: k) st Q := by
  obtain ⟨h0, σJ, hI, hs⟩ := h
  have hplain : plnY call i c = some cs → Runs P n (.ops (i :: l) :: k) st Q := by
    intro hr
    unfold plnY at hr
    split at hr
    · rename_i cs' hcs
      simp only [Option.some.injEq] at hr; subst hr
      exact ins_run2 hc hok hs hcs fun R' st' hle hs' => hk _ (List.mem_singleton.2 rfl) R' st' hle ⟨hle _ _ h0, σJ, hI, hs'⟩
    · cases hr
  unfold insY at hr
  split at hr
  · rename_i fx args hop
    have hok' := hok
    simp only [okIns, Bool.and_eq_true] at hok'
    have hokx := hok'.1
    rw [hop] at hokx
    simp only [okOp, VOp.xs, List.all_cons, Bool.and_eq_true] at hokx
    have hgok : (match i.g with | some (x, _) => okX x | none => true) = true := by
      have := hok'.2
      revert this
      cases i.g with
      | none => simp
      | some x => simp
    split at hr
    · rename_i hw
      have hw' := want_rel hs.slot hgok hw
      split at hr
      · rename_i j hj
        rw [bcase] at hr
        split at hr
        · rename_i hj0
          have hj0 := Nat.eq_of_beq_eq_true hj0
          subst hj0
          have hfx := ev_rel hs.slot hokx.1.1
          rw [hj] at hfx
          simp only [VRel] at hfx
          obtain ⟨id', hfx, hR⟩ := hfx
          have : id' = idl := hs.mem.fn _ _ _ hR h0
          subst this
          simp only [yieldQ] at hr
          split at hr
          · rename_i x hx
            rw [brec] at hr
            split at hr
            · rename_i hcond
              simp only [Bool.and_eq_true, Bool.not_eq_true'] at hcond
              obtain ⟨hno, heq, hst⟩ := hcond
              have heq := eqLQ_eq (eqVQ_eq 40) heq
              simp only [Option.some.injEq] at hr; subst hr
              have hargs := evs_rel hs.slot hokx.1.2
              have hargs := noidL_eq _ _ hno hargs
              have hlt : c.i < xs.length := (List.getElem?_eq_some_iff.1 hx).1
              have hxs : xs = xs.take c.i ++ x :: xs.drop (c.i + 1) := by
                have h1 : xs[c.i] = x := (List.getElem?_eq_some_iff.1 hx).2
                rw [← h1, ← List.drop_eq_getElem_cons hlt, List.take_append_drop]
              have htk : xs.take c.i ++ [x] = xs.take (c.i + 1) := by
                have h1 : xs[c.i] = x := (List.getElem?_eq_some_iff.1 hx).2
                rw [List.take_add_one, hx]; rfl
              have hyc := hy (xs.take c.i) x _ σJ st.σ hxs (hI.1 hst) hs.mem.keep
              refine Runs.ycall hw' hop hfx (Post := fun b σ' => ∃ σJ', Beside σJ st.σ σJ' σ' ∧ ((b = true ∧ J (xs.take c.i ++ [x]) σJ') ∨ (b = false ∧ Jx (xs.take c.i ++ [x]) σJ'))) ?_ ?_
              · rw [hargs, heq]; exact hyc
              · rintro b σ' ⟨σJ', hb, hbb⟩
                have hm : MRel σJ' 0 R (stF c.cs.σ) c.cs.nxt σ' := by
                  have hnone : ∀ a o c1, R c1 a → stF c.cs.σ c1 = some o → σJ a = none := fun a o c1 hR ho => by
                    cases hj : σJ a with
                    | none => rfl
                    | some x => have := hs.mem.kfl a x c1 o hj hR ho; omega
                  refine ⟨hs.mem.dom, fun c1 a o hR ho => ?_, hs.mem.inj, hs.mem.fn, hb.1, fun a o c1 oc h1 h2 h3 => ?_⟩
                  · obtain ⟨rows', g1, g2⟩ := hs.mem.live c1 a o hR ho
                    exact ⟨rows', (hb.2 a _ (hnone a o c1 hR ho) g1).1, g2⟩
                  · obtain ⟨rows', g1, g2⟩ := hs.mem.live c1 a oc h2 h3
                    have := (hb.2 a _ (hnone a oc c1 h2 h3) g1).2
                    rw [this] at h1; cases h1
                have hS : SRel σJ' 0 R c.cs ⟨st.s, σ'⟩ := ⟨hs.slot, hm⟩
                rcases hbb with ⟨rfl, hJ⟩ | ⟨rfl, hJ⟩
                · refine hk ⟨c.cs.put i.dst (.bool true), Nat.succ c.i, false, []⟩ (by simp) R _ (Le.refl R) ⟨h0, σJ', ⟨fun _ => ?_, fun e => by simp at e⟩, hS.put (by simp [VRel])⟩
                  rw [htk] at hJ; exact hJ
                · exact hk ⟨c.cs.put i.dst (.bool false), Nat.succ c.i, true, []⟩ (by simp) R _ (Le.refl R) ⟨h0, σJ', ⟨fun e => by simp at e, fun _ => ⟨_, ⟨xs.drop (c.i + 1), by rw [List.append_assoc]; exact hxs.symm⟩, hJ⟩⟩, hS.put (by simp [VRel])⟩
            · cases hr
          · cases hr
        · cases hr
      · rename_i f caps hf
        split at hr
        · rename_i vf hvf
          have hkf := hT.fn f _ hvf
          have hfx := ev_rel hs.slot hokx.1.1
          rw [hf] at hfx
          simp only [VRel] at hfx
          obtain ⟨caps', hf', hcaps⟩ := hfx
          unfold callY at hr
          rw [bcase] at hr
          split at hr
          · rename_i hlen
            split at hr
            · rename_i outs houts
              refine Runs.call hw' hop hf' (code_okY ih hkf (Nat.le_of_ble_eq_true hlen) houts hr h0 hI hs.mem ((evs_rel hs.slot hokx.1.2).append hcaps)) ?_
              rintro v σ' ⟨c1, r, R', σJ', hmem, hle, hv, hI', hm'⟩
              have hS : SRel σJ' 0 R' ⟨c.cs.s, r.σ, r.nxt⟩ ⟨st.s, σ'⟩ := ⟨fun j => VRel.mono hle _ _ (hs.slot j), hm'⟩
              exact hk _ hmem R' _ hle ⟨hle _ _ h0, σJ', hI', hS.put hv⟩
            · cases hr
          · cases hr
        · exact hplain hr
      · exact hplain hr
    · rename_i hw
      have hw' := want_rel hs.slot hgok hw
      simp only [Option.some.injEq] at hr; subst hr
      exact Runs.skipIns hw' (hk _ (List.mem_singleton.2 rfl) R _ (Le.refl R) ⟨h0, σJ, hI, hs.put VRel.nilt⟩)
    · cases hr
  · exact hplain hr
theorem opsY_run {f : VIns → YCf → Option (List YCf)} {k : List It} {Q : St → Prop}
    (hins : ∀ (i : VIns) (l : List VIns) (R : Nat → Nat → Prop) (c : YCf) (st : St) (cs : List YCf), okIns i = true → YR idl J Jx xs R c st → f i c = some cs →
      (∀ c' ∈ cs, ∀ R' st', Le R R' → YR idl J Jx xs R' c' st' → Runs P n (.ops l :: k) st' Q) → Runs P n (.ops (i :: l) :: k) st Q) : ∀ (l : List VIns) (R : Nat → Nat → Prop) (c : YCf) (st : St) (outs : List YCf),
      l.all okIns = true → YR idl J Jx xs R c st → opsY f l c = some outs → (∀ c' ∈ outs, ∀ R' st', Le R R' → YR idl J Jx xs R' c' st' → Runs P n k st' Q) → Runs P n (.ops l :: k) st Q
  | [], R, c, st, outs, _, h, hr, hk => by
    simp only [opsY, Option.some.injEq] at hr; subst hr
    exact Runs.ops_nil (hk c (by simp) R st (Le.refl R) h)
  | i :: l, R, c, st, outs, hok, h, hr, hk => by
    simp only [List.all_cons, Bool.and_eq_true] at hok
    simp only [opsY] at hr
    split at hr
    · rename_i cs hcs
      refine hins i l R c st cs hok.1 h hcs fun c' hc' R' st' hle h' => ?_
      obtain ⟨x, h1, h2⟩ := bindL_mem hr c' hc'
      exact opsY_run hins l R' c' st' x hok.2 h' h1 fun c'' hc'' R'' st'' hle' h'' => hk c'' (h2 _ hc'') R'' st'' (hle.trans hle') h''
    · cases hr
theorem evY_succ (T : Tb) (xs : Option (List (List V))) (f : Nat) (c : VCode) (y : YCf) : evY T xs (f + 1) c y = match c with
      | .skip => some [.nx y]
      | .reg draw l => @Bool.casesOn (fun _ => Option (List YOut)) draw (opsO (opsY (insY T (evF2 (evL2 T f) T.fn) (evY T xs f) xs) l y)) (plainY y (evL2 T (f + 1) 0 (.reg true l) y.cs))
      | .seq a b => bindY (evY T xs f a y) (evY T xs f b)
      | .cond x a b => onY (x.ev y.cs.sf) (evY T xs f a y) (evY T xs f b y)
      | .block id a => blkY id (evY T xs f a y)
      | .loop a => bindY (evY T xs f a y) (evY T xs f (.loop a))
      | .exit id => some [.ex id y]
      | .ret => some [.rt y]
      | .rangeF g ps a b => plainY y (evL2 T (f + 1) 0 (.rangeF g ps a b) y.cs)
      | .regA l deps => plainY y (evL2 T (f + 1) 0 (.regA l deps) y.cs)
      | .regL l e => (match evOps2 true (evF2 (evL2 T f) T.fn) 0 l y.cs with
        | .nx cs' => opsO (opsY (insY T (evF2 (evL2 T f) T.fn) (evY T xs f) xs) e ⟨cs', y.i, y.stop, y.log⟩)
        | _ => none)
      | .bad => none := rfl
theorem evY_ok (hy : HY P idl J Jx xs) {T : Tb} (hT : TOk P T) : ∀ fuel, LY P idl J Jx xs (evY T (some xs) fuel) := by
  intro fuel
  induction fuel using Nat.strongRecOn with
  | _ fuel ih =>
    intro n R code c st k Q outs hok h hr hthen
    cases fuel with
    | zero => cases hr
    | succ f =>
      have ihf := ih f (by omega)
      have hcall := call_ok2 hT (evL2_ok hT f)
      have hplain : plainY c (evL2 T (f + 1) 0 code c.cs) = some outs → Runs P n (.code code :: k) st Q := by
        intro hr
        obtain ⟨h0, σJ, hI, hs⟩ := h
        refine evL2_ok hT (f + 1) n σJ 0 R code c.cs st k Q hok hs ?_
        generalize evL2 T (f + 1) 0 code c.cs = o at hr
        cases o with
        | nx cs' =>
          simp only [plainY, Option.some.injEq] at hr; subst hr
          have h1 := hthen _ (List.mem_singleton.2 rfl)
          exact fun R' st' hle hs' => h1 R' st' hle ⟨hle _ _ h0, σJ, hI, hs'⟩
        | ex id cs' =>
          simp only [plainY, Option.some.injEq] at hr; subst hr
          obtain ⟨k', h1, h2⟩ := hthen _ (List.mem_singleton.2 rfl)
          exact ⟨k', h1, fun R' st' hle hs' => h2 R' st' hle ⟨hle _ _ h0, σJ, hI, hs'⟩⟩
        | rt cs' =>
          simp only [plainY, Option.some.injEq] at hr; subst hr
          have h1 := hthen _ (List.mem_singleton.2 rfl)
          exact fun R' st' hle hs' => h1 R' st' hle ⟨hle _ _ h0, σJ, hI, hs'⟩
        | bad => simp [plainY] at hr
      have hops : ∀ (l : List VIns) (R : Nat → Nat → Prop) (c : YCf) (st : St), l.all okIns = true → YR idl J Jx xs R c st → opsO (opsY (insY T (evF2 (evL2 T f) T.fn) (evY T (some xs) f) (some xs)) l c) = some outs →
          (∀ o ∈ outs, ThenY P idl J Jx xs n R k Q o) → Runs P n (.ops l :: k) st Q := by
        intro l R c st hl h hr hthen
        unfold opsO at hr
        split at hr
        · rename_i cs hcs
          simp only [Option.some.injEq] at hr; subst hr
          refine opsY_run (fun i l R c st cs h1 h2 h3 h4 => insY_run hy hT hcall ihf h1 h2 h3 h4) l R c st cs hl h hcs fun c' hc' => ?_
          exact hthen _ (nxs_mem hc')
        · cases hr
      rw [evY_succ] at hr
      cases code with
      | skip =>
        simp only [Option.some.injEq] at hr; subst hr
        have h1 := hthen _ (List.mem_singleton.2 rfl)
        exact Runs.skip (h1 R st (Le.refl R) h)
      | reg draw l =>
        cases draw
        · simp only [okCode2] at hok
          exact Runs.region (hops l R c st hok h hr hthen)
        · exact hplain hr
      | seq a b =>
        simp only [okCode2, Bool.and_eq_true] at hok
        simp only [bindY] at hr
        split at hr
        · rename_i o1 ho1
          refine Runs.seq (ihf n R a c st _ Q o1 hok.1 h ho1 fun o ho => ?_)
          obtain ⟨x, h1, h2⟩ := bindL_mem hr o ho
          cases o with
          | nx c1 => exact fun R1 st1 hle1 hs1 => ihf n R1 b c1 st1 k Q x hok.2 hs1 h1 fun o ho => (hthen o (h2 o ho)).le hle1
          | ex id c1 =>
            simp only [nxY, Option.some.injEq] at h1; subst h1
            exact hthen _ (h2 _ (List.mem_singleton.2 rfl))
          | rt c1 =>
            simp only [nxY, Option.some.injEq] at h1; subst h1
            exact hthen _ (h2 _ (List.mem_singleton.2 rfl))
        · cases hr
      | cond x a b =>
        simp only [okCode2, Bool.and_eq_true] at hok
        obtain ⟨h0, σJ, hI, hs⟩ := h
        have hv := ev_rel hs.slot hok.1
        have hr : onY (x.ev c.cs.sf) (evY T (some xs) f a c) (evY T (some xs) f b c) = some outs := hr
        unfold onY at hr
        split at hr
        · rename_i t ht
          rw [ht, VRel.bool_iff] at hv
          refine Runs.cond hv (fun e => ?_) (fun e => ?_)
          · subst e; exact ihf n R a c st k Q outs hok.2.1 ⟨h0, σJ, hI, hs⟩ hr hthen
          · subst e; exact ihf n R b c st k Q outs hok.2.2 ⟨h0, σJ, hI, hs⟩ hr hthen
        · cases hr
      | block id a =>
        simp only [okCode2] at hok
        simp only [blkY] at hr
        split at hr
        · rename_i o1 ho1
          simp only [Option.some.injEq] at hr; subst hr
          refine Runs.block (ihf n R a c st _ Q o1 hok h ho1 fun o ho => ?_)
          have h1 := hthen _ (List.mem_map.2 ⟨o, ho, rfl⟩)
          cases o with
          | nx c1 => exact fun R1 st1 hle1 hs1 => Runs.inBlock (h1 R1 st1 hle1 hs1)
          | ex j c1 =>
            simp only [unblk, bcase] at h1
            by_cases hj : j = id
            · subst hj
              rw [if_pos (by rw [Nat.beq_eq])] at h1
              exact ⟨k, by simp [popTo], h1⟩
            · rw [if_neg (by rw [Nat.beq_eq]; exact hj)] at h1
              obtain ⟨k', h2, h3⟩ := h1
              exact ⟨k', by simp [popTo, hj, h2], h3⟩
          | rt c1 => exact h1
        · cases hr
      | loop a =>
        have hok' := hok
        simp only [okCode2] at hok
        have hr0 : evY T (some xs) (f + 1) (.loop a) c = some outs := hr
        refine Runs.loop (fun m st => m ≤ f + 1 ∧ ∃ R1 c1 o1, Le R R1 ∧ YR idl J Jx xs R1 c1 st ∧ evY T (some xs) m (.loop a) c1 = some o1 ∧ ∀ o ∈ o1, o ∈ outs) (f + 1) ⟨Nat.le_refl _, R, c, outs, Le.refl R, h, hr0, fun _ h => h⟩ ?_
        rintro m st1 ⟨hm, R1, c1, o1, hle1, hs1, ho1, hsub⟩
        cases m with
        | zero => cases ho1
        | succ m =>
          have ihm := ih m (by omega)
          rw [evY_succ] at ho1
          simp only [bindY] at ho1
          split at ho1
          · rename_i o2 ho2
            refine ihm n R1 a c1 st1 _ Q o2 hok hs1 ho2 fun o ho => ?_
            obtain ⟨x, h1, h2⟩ := bindL_mem ho1 o ho
            cases o with
            | nx c2 => exact fun R2 st2 hle2 hs2 => Runs.stop ⟨m, by omega, by omega, R2, c2, x, hle1.trans hle2, hs2, h1, fun o ho => hsub o (h2 o ho)⟩
            | ex id c2 =>
              simp only [nxY, Option.some.injEq] at h1; subst h1
              obtain ⟨k', h3, h4⟩ := hthen _ (hsub _ (h2 _ (List.mem_singleton.2 rfl)))
              exact ⟨k', by simpa [popTo] using h3, fun R2 st2 hle2 hs2 => h4 R2 st2 (hle1.trans hle2) hs2⟩
            | rt c2 =>
              simp only [nxY, Option.some.injEq] at h1; subst h1
              exact (hthen _ (hsub _ (h2 _ (List.mem_singleton.2 rfl)))).le hle1
          · cases ho1
      | exit id =>
        simp only [Option.some.injEq] at hr; subst hr
        obtain ⟨k', h1, h2⟩ := hthen _ (List.mem_singleton.2 rfl)
        exact Runs.exit h1 (h2 R st (Le.refl R) h)
      | ret =>
        simp only [Option.some.injEq] at hr; subst hr
        have h1 := hthen _ (List.mem_singleton.2 rfl)
        exact Runs.ret (h1 R st (Le.refl R) h)
      | rangeF g ps a b => exact hplain hr
      | regA l deps => exact hplain hr
      | regL l e =>
        simp only [okCode2, Bool.and_eq_true] at hok
        obtain ⟨h0, σJ, hI, hs⟩ := h
        simp only [evOps2] at hr
        rcases evOps3N_nx (call := evF2 (evL2 T f) T.fn) (fl := 0) 1000 l c.cs with ⟨cs', he⟩ | he
        · rw [he] at hr
          refine Runs.regL (ops_T3 hcall 1000 l R c.cs st he hok.1 hs fun R' st' hle hs' => ?_)
          exact hops e R' ⟨cs', c.i, c.stop, c.log⟩ st' hok.2 ⟨hle _ _ h0, σJ, hI, hs'⟩ hr fun o ho => (hthen o ho).le hle
        · rw [he] at hr; cases hr
      | bad => cases hr
end
def vfOf (P : Program) (f : FuncId) : Option VFn := match P.funcs[f]? with
  | some fn => (match cfn P fn with
    | some vf => @Bool.casesOn (fun _ => Option VFn) (callable P f && okFn2 vf) none (some vf)
    | none => none)
  | none => none
theorem vfOf_ok {f : FuncId} {vf : VFn} (h : vfOf P f = some vf) : callable P f = true ∧ okFn2 vf = true ∧ ∃ fn, P.funcs[f]? = some fn ∧ cfn P fn = some vf := by
  unfold vfOf at h
  split at h
  · rename_i fn hfn
    split at h
    · rename_i vf' hvf
      rw [bcase] at h
      split at h
      · rename_i hc
        simp only [Bool.and_eq_true] at hc
        simp only [Option.some.injEq] at h; subst h
        exact ⟨hc.1, hc.2, fn, hfn, hvf⟩
      · cases h
    · cases h
  · cases h
def recY : List YOut → Option (List (List V))
  | [.nx c] => some c.log.reverse
  | [.rt c] => some c.log.reverse
  | _ => none
def finY (n : Nat) (c : YCf) : Bool := @Bool.casesOn (fun _ => Bool) c.stop (Nat.beq c.i n) true
def c0Y (caps : List V) : YCf := ⟨⟨Tr.ofL (.yl 0 :: caps) 0 .e, .e, 1⟩, 0, false, []⟩
def itY (T : Tb) (fuel : Nat) (vf : VFn) (caps : List V) : Option (List (List V)) := @Bool.casesOn (fun _ => Option (List (List V))) (Nat.ble (Nat.succ caps.length) vf.n) none
  (match evY T none fuel vf.code (c0Y caps) with
    | some o1 => (match recY o1 with
      | some xs => (match evY T (some xs) fuel vf.code (c0Y caps) with
        | some o2 => (match bindL (endY vf.res none (c0Y caps)) o2 with
          | some rs => @Bool.casesOn (fun _ => Option (List (List V))) (rs.all (finY xs.length)) none (some xs)
          | none => none)
        | none => none)
      | none => none)
    | none => none)
theorem itY_ok {T : Tb} (hT : TOk P T) {fuel : Nat} {g : FuncId} {vf : VFn} (hk : callable P g = true ∧ okFn2 vf = true ∧ ∃ fn, P.funcs[g]? = some fn ∧ cfn P fn = some vf) {caps : List V} {xs : List (List V)} (h : itY T fuel vf caps = some xs) (hn : noidL caps = true) : Iter P g caps xs := by
  unfold itY at h
  rw [bcase] at h
  split at h
  · rename_i hlen
    split at h
    · split at h
      · split at h
        · rename_i o2 ho2
          split at h
          · rename_i rs hrs
            rw [bcase] at h
            split at h
            · rename_i hfin
              simp only [Option.some.injEq] at h; subst h
              refine ⟨hk.1, fun idl J Jx σ0 hy hJ => ?_⟩
              have hm : MRel σ0 0 (fun a b => a = 0 ∧ b = idl) (stF .e) 1 σ0 := ⟨fun _ _ h => by omega, fun c a o _ h => by simp [stF, getP_e] at h, fun c c' a o o' _ _ h => by simp [stF, getP_e] at h, fun c a a' h1 h2 => h1.2.trans h2.2.symm, SubStore.refl σ0, fun a o c oc _ _ h => by simp [stF, getP_e] at h⟩
              refine ((code_okY (c := c0Y caps) (args := .yl 0 :: caps) (args' := .yl idl :: caps) (σJ := σ0) (evY_ok hy hT fuel) hk (Nat.le_of_ble_eq_true hlen) ho2 hrs ⟨rfl, rfl⟩ ⟨fun _ => by simpa [c0Y] using hJ, fun e => by simp [c0Y] at e⟩ hm ?_).drop ?_).2
              · exact VRelL.cons_iff.2 ⟨_, _, rfl, by simp only [VRel]; exact ⟨idl, rfl, trivial, rfl⟩, noidL_refl caps hn⟩
              · rintro r σ' ⟨c1, r', R', σJ', hmem, -, -, hI, hm'⟩
                refine ⟨σJ', hm'.keep, ?_⟩
                have hf := List.all_eq_true.1 hfin _ hmem
                simp only [finY, bcase] at hf
                cases hst : c1.stop with
                | true => exact .inr (hI.2 hst)
                | false =>
                  simp only [hst, Bool.false_eq_true, if_false, Nat.beq_eq] at hf
                  have := hI.1 hst
                  rw [hf, List.take_length] at this
                  exact .inl this
            · cases h
          · cases h
        · cases h
      · cases h
    · cases h
  · cases h
def upT (P : Program) (fuel : Nat) (T : Tb) : Tb := ⟨T.fn, fun g => match vfOf P g with
  | some vf => some (itY T fuel vf)
  | none => none⟩
theorem upT_ok {T : Tb} (hT : TOk P T) (fuel : Nat) : TOk P (upT P fuel T) := by
  refine ⟨hT.mix, hT.fn, fun g h hg caps xs hx hn => ?_⟩
  simp only [upT] at hg
  split at hg
  · rename_i vf hvf
    simp only [Option.some.injEq] at hg; subst hg
    exact itY_ok hT (vfOf_ok hvf) hx hn
  · cases hg
end Go.Vc
namespace Go.Vc
variable {P : Program}
abbrev Ex := FuncId × List V × V
def ExOk (P : Program) (E : List Ex) : Prop := ∀ e ∈ E, PFun P e.1 e.2.1 e.2.2
theorem ExOk.nil : ExOk P [] := fun _ h => by cases h
theorem ExOk.cons {E : List Ex} {f : FuncId} {args : List V} {v : V} (hp : PFun P f args v) (h : ExOk P E) : ExOk P ((f, args, v) :: E) := fun e he => by
  rcases List.mem_cons.1 he with rfl | he
  · exact hp
  · exact h e he
def findE (f : FuncId) (args : List V) : List Ex → Option V
  | [] => none
  | e :: E => @Bool.casesOn (fun _ => Option V) (Nat.beq e.1 f && eqLQ (eqVQ 40) e.2.1 args) (findE f args E) (some e.2.2)
theorem findE_ok {f : FuncId} {args : List V} {v : V} : ∀ {E : List Ex}, ExOk P E → findE f args E = some v → PFun P f args v
  | [], _, h => by cases h
  | e :: E, hE, h => by
    simp only [findE, bcase] at h
    split at h
    · rename_i hc
      simp only [Bool.and_eq_true] at hc
      simp only [Option.some.injEq] at h; subst h
      have := hE e (by simp)
      rw [Nat.eq_of_beq_eq_true hc.1, eqLQ_eq (eqVQ_eq 40) hc.2] at this
      exact this
    · exact findE_ok (fun e he => hE e (List.mem_cons_of_mem _ he)) h
def hasE (f : FuncId) : List Ex → Bool
  | [] => false
  | e :: E => @Bool.casesOn (fun _ => Bool) (Nat.beq e.1 f) (hasE f E) true
def orcE (E : List Ex) (f : FuncId) : Option (List V → Option V) := @Bool.casesOn (fun _ => Option (List V → Option V)) (hasE f E) none (some fun args => findE f args E)
def noneOf (f : FuncId) : List FuncId → Bool
  | [] => true
  | g :: l => @Bool.casesOn (fun _ => Bool) (Nat.beq g f) (noneOf f l) false
noncomputable def tE (P : Program) (z : List FuncId) (E : List Ex) : Tb := upT P 2000 (upT P 2000 (upT P 2000 ⟨tbF P (fun f => noneOf f z) (orcE E), fun _ => none⟩))
theorem tE_ok (hm : P.follows .mixedOrders = true) (z : List FuncId) {E : List Ex} (hE : ExOk P E) : TOk P (tE P z E) :=
  upT_ok (upT_ok (upT_ok (tbF_ok hm _ (fun f g h as1 v hv _ _ => by
    simp only [orcE, bcase] at h
    split at h
    · simp only [Option.some.injEq] at h; subst h
      exact findE_ok hE hv
    · cases h) (fun _ _ h => by cases h)) 2000) 2000) 2000
theorem ex_of (hm : P.follows .mixedOrders = true) (z : List FuncId) {E : List Ex} (hE : ExOk P E) {f : FuncId} {args : List V} {v : V} (ha : noidL args = true) (h : ev3B P (tE P z E) 3000 f args v = true) : PFun P f args v :=
  PFun.of_ev3 (tE_ok hm z hE) 3000 ha h
end Go.Vc
namespace Go.Vc
open Go.Proofs
theorem ex34_parse : PFun Tryz.prog 6 [.str [49, 32, 50, 32, 51, 10, 48, 49, 32, 50, 32, 51, 10]] (.tup [.sl 3 [], .int .i64 2, .int .i64 1]) := by
  have h := iparse_c [49, 32, 50, 32, 51, 10, 48, 49, 32, 50, 32, 51, 10] (by decide)
  generalize hx : ([49, 32, 50, 32, 51, 10, 48, 49, 32, 50, 32, 51, 10] : List UInt8) = x at h
  have e : parseV (parseL (x.length + 1) x 1 []) = .tup [.sl 3 [], .int .i64 2, .int .i64 1] := by subst hx; kernel_rfl
  rw [e] at h
  subst hx
  exact h
theorem ex34_text : PFun Tryz.prog 8 [.sl 3 [.agg [.int .i64 (-1), .int .i64 0, .int .i64 0]]] (.str []) := by
  have h := itext_c [⟨-1, 0, 0⟩] (by decide)
  have e : textR [⟨-1, 0, 0⟩] = [] := by decide
  rw [e] at h
  exact h
end Go.Vc
