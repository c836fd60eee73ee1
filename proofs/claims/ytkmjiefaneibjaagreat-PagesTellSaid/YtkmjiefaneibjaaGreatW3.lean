/- Part 3 of the library of this proof. -/
import Derived.Test.YtkmjiefaneibjaaGreatW2
set_option linter.all false
namespace Go.Vc
variable {P : Program} {n : Nat} {st : St} {Q : St → Prop} {k : List It} {μ : Mu} {w w' : World}
def exKI : List (Nat × (St → Prop)) → List KI
  | [] => []
  | (id, I) :: l => .inBlock id :: .stop I :: exKI l
theorem exKI_it : ∀ (l : List (Nat × (St → Prop))), (exKI l).map (KI.it P n) = exK l
  | [] => rfl
  | (id, I) :: l => by simp [exKI, exK, KI.it, exKI_it l]
theorem kont_exits {F : Fr} {e : Exit} {a : Act} (he : e ≠ .normal) : ∀ (l : List (Nat × (St → Prop))), Kont P F Q (exKI l) e a w →
    (e = .ret ∧ ∃ st, Q st ∧ SatF F st a w) ∨ ∃ id I, (id, I) ∈ l ∧ e = .exit id ∧ ∃ st, I st ∧ SatF F st a w
  | [], h => .inl ⟨h.1.resolve_left he, h.2⟩
  | (id, I) :: l, h => by
    have h : Exit.inBlock id (Kont P F Q (.stop I :: exKI l)) e a w := h
    have up : Kont P F Q (exKI l) e a w → _ := kont_exits he l
    have go : Kont P F Q (exKI l) e a w → (e = .ret ∧ ∃ st, Q st ∧ SatF F st a w) ∨ ∃ id' I', (id', I') ∈ (id, I) :: l ∧ e = .exit id' ∧ ∃ st, I' st ∧ SatF F st a w := fun h => by
      rcases up h with h | ⟨i, I', h1, h2⟩
      · exact .inl h
      · exact .inr ⟨i, I', by simp [h1], h2⟩
    cases e with
    | normal => exact absurd rfl he
    | exit j =>
      simp only [Exit.inBlock] at h
      by_cases hj : j = id
      · rw [if_pos hj] at h
        exact .inr ⟨id, I, by simp, by rw [hj], h⟩
      · rw [if_neg hj] at h
        exact go h
    | _ => exact go h
def jumpOf : Option Nat → Code
  | none => .ret
  | some id => .exit id
theorem round_YC {rec : Loop} (hready : rec.state = .ready) (hpend : rec.pending = none) (htm : rec.tmps.size = n) {s : Nat → V} {idl : Nat} {x : List V} {σJ σ : Store}
    (hx : x.length = rec.params.toList.length) (hrow : σJ idl = some (gh (.loop rec) ((List.range n).map s))) (hsub : SubStore σJ σ)
    (Jn : Store → Prop) (exits : List Nat) (Jx : Option Nat → Store → Prop)
    (hb : Runs P n [.code (ccode P n rec.assign), .stop fun st1 => Runs P n (.code (ccode P n rec.body) :: .stop (fun st2 => ∃ σ2, Beside (del σJ idl) (del σ idl) σ2 st2.σ ∧ Jn σ2) ::
      exK (exits.map fun id => (id, fun st2 => ∃ σ2, Beside (del σJ idl) (del σ idl) σ2 st2.σ ∧ Jx (some id) σ2))) st1 (fun st2 => ∃ σ2, Beside (del σJ idl) (del σ idl) σ2 st2.σ ∧ Jx none σ2)]
      ⟨putL s rec.params.toList x, del σ idl⟩ (fun _ => False)) :
    YC P idl x σ fun b σ' => ∃ σJ', Beside σJ σ σJ' σ' ∧ ((b = true ∧ σJ' idl = some (gh (.loop rec) ((List.range n).map s)) ∧ Jn (del σJ' idl)) ∨
      (b = false ∧ ∃ e : Option Nat, σJ' idl = some (gh (.loop { rec with state := .done, pending := some (jumpOf e) }) ((List.range n).map s)) ∧ Jx e (del σJ' idl) ∧ ∀ id, e = some id → id ∈ exits)) := by
  intro μ3 w3 vals l c hid hsat hrep
  have hσ := hsub _ _ hrow
  obtain ⟨hl, henv⟩ := hsat.getG hσ hid
  have hvl : vals.length = rec.params.toList.length := by rw [← hx]; exact hrep.length
  have hy := run_yield (P := P) (args := vals.toArray) hl (by simpa using hvl)
  have hno : ¬ Owned μ3 (del σ idl) l := by
    rintro ⟨id, o, sz, cap, h1, h2⟩
    have := hsat.inj id idl o _ l sz cap 0 c (SubStore.of_del σ idl id o h1) hσ h2 hid
    subst this
    simp [del] at h1
  have hks : Keeps (Owned μ3 σ) (Owned μ3 (del σ idl)) w3 w3 := Keeps.sub w3 (SubStore.of_del σ idl)
  have hslots : ∀ i, i < n → Rep μ3 (Owned μ3 (del σ idl)) w3 (s i) (rec.tmps.getD i undef) := fun i hi => by
    have hv : ((List.range n).map s)[i]? = some (s i) := by simp [hi]
    obtain ⟨y, h1, h2⟩ := henv.get hv
    have : rec.tmps.getD i undef = y := by
      simp only [tmpsOf] at h1
      rw [Array.getD_eq_getD_getElem?, ← Array.getElem?_toList, h1]; rfl
    rw [this]
    exact Rep.mono (MuLe.refl _) hks (Nat.le_refl _) _ _ h2
  obtain ⟨hg1, hg2⟩ := foldl_get rec.params.toList vals rec.tmps x s n htm (RepAll.mono (MuLe.refl _) hks (Nat.le_refl _) _ _ hrep) hx hslots
  have hzip : (rec.params.zip vals.toArray).foldl (fun tmps (t, a) => tmps.setIfInBounds t a) rec.tmps = (rec.params.toList.zip vals).foldl (fun t (p, v) => t.setIfInBounds p v) rec.tmps := by
    rw [← Array.foldl_toList, Array.toList_zip]
  rw [hzip] at hy
  refine ⟨rec.fn, _, rec.assign, rec.body, hy, roundIn_of_wpIn (F := Fence.wide) trivial ?_⟩
  have hs1 : SatM ⟨w3, Owned μ3 σ, μ3, n, some (l, rec)⟩ μ3 ⟨putL s rec.params.toList x, del σ idl⟩ { tmps := (rec.params.toList.zip vals).foldl (fun t (p, v) => t.setIfInBounds p v) rec.tmps, defers := [] } w3 := by
    refine ⟨hsat.drop (SubStore.of_del σ idl), MuLe.refl _, hg1, ⟨fun l' r' e => ?_, [], rfl, .nil, by simp⟩, hg2⟩
    simp only [Option.some.injEq, Prod.mk.injEq] at e
    obtain ⟨rfl, rfl⟩ := e
    exact ⟨hl, hno⟩
  have h1 := hb ⟨w3, Owned μ3 σ, μ3, n, some (l, rec)⟩ rfl [.code rec.assign, .stop _] rfl _ w3 ⟨μ3, hs1⟩
  refine wpIn_mono (F := Fence.wide.inRound l) h1 ?_
  intro e a1 w1 h
  cases e with
  | normal =>
    obtain ⟨st1, hI, μ4, hs4⟩ := h
    have hpk := hs4.poke (F' := ⟨w3, Owned μ3 σ, μ3, n, some (l, { rec with state := .busy })⟩) (r' := { rec with state := .busy }) rfl rfl (fun _ => ⟨idl, _, 0, c, hσ, hid⟩)
    refine ⟨_, run_beginRound (hs4.book.rnd l rec rfl).1 hready, ?_⟩
    have h2 := hI ⟨w3, Owned μ3 σ, μ3, n, some (l, { rec with state := .busy })⟩ rfl (.code rec.body :: .stop _ :: exKI _) (by simp only [List.map_cons, exKI_it]; rfl) a1 _ ⟨μ4, hpk⟩
    refine wpIn_mono (F := Fence.wide.inRound l) h2 ?_
    have fin : ∀ (st2 : St) (a2 : Act) (w2 : World) (jump : Option Code) (σ2 : Store), SatF ⟨w3, Owned μ3 σ, μ3, n, some (l, { rec with state := .busy })⟩ st2 a2 w2 → Beside (del σJ idl) (del σ idl) σ2 st2.σ →
        ∃ v w'', (Instr.endRound l jump).run P w2 = .ok v w'' ∧ v = .bool jump.isNone ∧ ∃ σ' μ' σJ', MuLe μ3 μ' ∧ Sat w3 (Owned μ3 σ) μ' σ' w'' ∧ Beside σJ σ σJ' σ' ∧
          σJ' idl = some (gh (.loop { rec with state := if jump.isNone then .ready else .done, pending := jump }) ((List.range n).map s)) ∧ del σJ' idl = σ2 := by
      rintro st2 a2 w2 jump σ2 ⟨μ5, hs5⟩ hbs
      obtain ⟨q1, q2⟩ := hs5.book.rnd l _ rfl
      have hid5 : μ5 idl = .lies l 0 c := (hs5.le idl (show μ3 idl ≠ .unborn by rw [hid]; simp)).trans hid
      have hn5 : st2.σ idl = none := by
        cases h : st2.σ idl with
        | none => rfl
        | some o => exact absurd ⟨idl, o, 0, c, h, hid5⟩ q2
      have hk5 : Keeps (Owned μ3 σ) (Owned μ5 st2.σ) w3 w2 := fun b hb hn => ⟨fun ho => hn (hs5.sat.fresh b ho hb), hs5.sat.same b hb hn⟩
      have henv5 := RepAll.mono hs5.le hk5 hs5.sat.size _ _ henv
      have hn2 : σ2 idl = none := by
        cases h : σ2 idl with
        | none => rfl
        | some o => have := hbs.1 idl o h; rw [hn5] at this; cases this
      refine ⟨_, _, run_endRound (P := P) jump q1, rfl, upd st2.σ idl (gh (.loop { rec with state := if jump.isNone then .ready else .done, pending := jump }) ((List.range n).map s)), μ5,
        upd σ2 idl (gh (.loop { rec with state := if jump.isNone then .ready else .done, pending := jump }) ((List.range n).map s)), hs5.le, ?_, ⟨hbs.1.upd2, fun i o h1 h2 => ?_⟩, upd_same, del_upd hn2⟩
      · exact hs5.sat.regain hn5 hid5 q2 q1 (fun _ => ⟨idl, _, 0, c, hσ, hid⟩) _ _ henv5
      · have hne : i ≠ idl := fun e => by rw [e, hrow] at h1; cases h1
        obtain ⟨g1, g2⟩ := hbs.2 i o (by rw [del_ne hne]; exact h1) (by rw [del_ne hne]; exact h2)
        rw [upd_ne hne, upd_ne hne]
        exact ⟨g1, g2⟩
    intro e a2 w2 h
    cases e with
    | normal =>
      obtain ⟨st2, ⟨σ2, hbs, hj⟩, hs2⟩ := h
      obtain ⟨v, w'', g1, rfl, σ', μ', σJ', g2, g3, g4, g5, g6⟩ := fin st2 a2 w2 none σ2 hs2 hbs
      refine ⟨_, w'', g1, true, σ', μ', rfl, ⟨σJ', g4, .inl ⟨rfl, ?_, by rw [g6]; exact hj⟩⟩, g2, g3⟩
      rw [g5]
      have : ({ rec with state := .ready, pending := none } : Loop) = rec := by rw [← hready, ← hpend]
      simp [this]
    | ret =>
      rcases kont_exits (by simp) _ h with ⟨_, st2, ⟨σ2, hbs, hj⟩, hs2⟩ | ⟨_, _, _, h, _⟩
      · obtain ⟨v, w'', g1, rfl, σ', μ', σJ', g2, g3, g4, g5, g6⟩ := fin st2 a2 w2 (some .ret) σ2 hs2 hbs
        exact ⟨_, w'', g1, false, σ', μ', rfl, ⟨σJ', g4, .inr ⟨rfl, none, g5, by rw [g6]; exact hj, by simp⟩⟩, g2, g3⟩
      · cases h
    | exit id =>
      rcases kont_exits (by simp) _ h with ⟨h, _⟩ | ⟨id', I, hin, h, st2, hI2, hs2⟩
      · cases h
      · cases h
        simp only [List.mem_map, Prod.mk.injEq] at hin
        obtain ⟨id'', hin', rfl, rfl⟩ := hin
        obtain ⟨σ2, hbs, hj⟩ := hI2
        obtain ⟨v, w'', g1, rfl, σ', μ', σJ', g2, g3, g4, g5, g6⟩ := fin st2 a2 w2 (some (.exit id'')) σ2 hs2 hbs
        exact ⟨_, w'', g1, false, σ', μ', rfl, ⟨σJ', g4, .inr ⟨rfl, some id'', g5, by rw [g6]; exact hj, by simp [hin']⟩⟩, g2, g3⟩
    | goto t => rcases kont_exits (by simp) _ h with ⟨h, _⟩ | ⟨_, _, _, h, _⟩ <;> cases h
    | panic ch => rcases kont_exits (by simp) _ h with ⟨h, _⟩ | ⟨_, _, _, h, _⟩ <;> cases h
    | outgrown => rcases kont_exits (by simp) _ h with ⟨h, _⟩ | ⟨_, _, _, h, _⟩ <;> cases h
  | ret => exact h.2.choose_spec.1.elim
  | exit id => rcases h.1 with h | h <;> cases h
  | goto t => rcases h.1 with h | h <;> cases h
  | panic ch => rcases h.1 with h | h <;> cases h
  | outgrown => rcases h.1 with h | h <;> cases h
end Go.Vc
namespace Go.Vc
variable {P : Program} {n : Nat} {st : St} {Q : St → Prop} {k : List It} {μ : Mu} {w w' : World}
theorem run_rangeCall {a : Act} {g : Operand} {l : Nat} {f : FuncId} {cv : List Value} (h : a.eval g = .func (.func f) #[] ⟨cv⟩) :
    (resolve a.eval (rangeCall g l) 0).run P w = .ok { target := .fn (.func f) ⟨cv⟩, args := #[.func (.yield l) #[] #[]] } w := by
  simp only [resolve, h, Deferred.ofValue]
  simp [go_sem]
theorem Runs.rangeF {g : VX} {ps : List Nat} {A B : VCode} {gf : FuncId} {caps : List V} (hg : g.ev st.s = .fn gf caps) {xs : List (List V)} (hit : Iter P gf caps xs)
    (hlen : ∀ x ∈ xs, x.length = ps.length) (exits : List Nat) (J : List (List V) → Store → Prop) (Jx : Option Nat → List (List V) → Store → Prop) (h0 : J [] st.σ)
    (hbody : ∀ pre x post σJ σ, xs = pre ++ x :: post → J pre σJ → SubStore σJ σ →
      Runs P n [.code A, .stop fun st1 => Runs P n (.code B :: .stop (fun st2 => ∃ σ2, Beside σJ σ σ2 st2.σ ∧ J (pre ++ [x]) σ2) ::
        exK (exits.map fun id => (id, fun st2 => ∃ σ2, Beside σJ σ σ2 st2.σ ∧ Jx (some id) (pre ++ [x]) σ2))) st1 (fun st2 => ∃ σ2, Beside σJ σ σ2 st2.σ ∧ Jx none (pre ++ [x]) σ2)]
        ⟨putL st.s ps x, σ⟩ (fun _ => False))
    (hdone : ∀ σ', J xs σ' → Runs P n k ⟨st.s, σ'⟩ Q)
    (hexit : ∀ id ∈ exits, ∀ pre σ', pre <+: xs → Jx (some id) pre σ' → Runs P n (.code (.exit id) :: k) ⟨st.s, σ'⟩ Q)
    (hret : ∀ pre σ', pre <+: xs → Jx none pre σ' → Runs P n (.code .ret :: k) ⟨st.s, σ'⟩ Q) : Runs P n (.code (.rangeF g ps A B) :: k) st Q := by
  intro F hn kt hk a w hs
  subst hn
  obtain ⟨z, kt', rfl, hy, hk'⟩ := kt_cons hk
  obtain ⟨c0, rfl, hc⟩ := it_code hy
  have hc0 : ∃ g0 ps0 a0 b0, c0 = .rangeFunc g0 ps0 a0 b0 ∧ cx F.n g0 = g ∧ ps0.toList = ps ∧ ccode P F.n a0 = A ∧ ccode P F.n b0 = B := by
    cases c0 <;> simp only [ccode, reduceCtorEq, VCode.rangeF.injEq] at hc
    case region => (split at hc; cases hc); split at hc <;> cases hc
    exact ⟨_, _, _, _, rfl, hc.1, hc.2.1, hc.2.2.1, hc.2.2.2⟩
  obtain ⟨g0, ps0, a0, b0, rfl, rfl, rfl, rfl, rfl⟩ := hc0
  obtain ⟨μ, hs⟩ := hs
  have hrg := rep_cx hs g0
  rw [hg] at hrg
  simp only [Rep] at hrg
  obtain ⟨cv, hgv, hcv⟩ := hrg
  refine wpIn_rangeFunc fun fn _ => ?_
  obtain ⟨mark, W0, D, hs0, hrun⟩ := hs.enter (P := P) fn ps0 a0 b0
  generalize hrec : ({ state := .ready, pending := none, fn, tmps := a.tmps, params := ps0, assign := a0, body := b0, defers := D } : Loop) = rec at hrun
  have hr1 : rec.state = .ready := by rw [← hrec]
  have hr2 : rec.pending = none := by rw [← hrec]
  have hr3 : rec.tmps = a.tmps := by rw [← hrec]
  have hr4 : rec.params = ps0 := by rw [← hrec]
  have hr5 : rec.assign = a0 := by rw [← hrec]
  have hr6 : rec.body = b0 := by rw [← hrec]
  have hszn : rec.tmps.size = F.n := by rw [hr3]; exact hs.size
  have henv : RepAll μ (Owned μ st.σ) W0 ((List.range F.n).map st.s) (tmpsOf (.loop rec)) := by
    have hl : tmpsOf (.loop rec) = (List.range F.n).map fun i => a.tmps.getD i undef := by
      simp only [tmpsOf, hr3]
      apply List.ext_getElem
      · simp [hs.size]
      · intro i h1 h2
        simp only [List.length_map, List.length_range] at h2
        simp only [Array.getElem_toList, List.getElem_map, List.getElem_range]
        rw [Array.getD_eq_getD_getElem?, Array.getElem?_eq_getElem (by rw [hs.size]; exact h2)]
        rfl
    rw [hl]
    have hall : ∀ l : List Nat, (∀ i ∈ l, i < F.n) → RepAll μ (Owned μ st.σ) W0 (l.map st.s) (l.map fun i => a.tmps.getD i undef) := by
      intro l
      induction l with
      | nil => intro _; simp [RepAll]
      | cons i l ih =>
        intro h
        simp only [List.map_cons, RepAll]
        exact ⟨_, _, rfl, hs0.slot i (h i (by simp)), ih fun j hj => h j (by simp [hj])⟩
    exact hall _ fun i hi => by simpa using hi
  obtain ⟨idl, hidn, μ1, hid1, hle1, hsat1, hk1⟩ := hs0.sat.newG (.loop rec) _ henv
  generalize hE : (List.range F.n).map st.s = env at *
  have hcvt : RepAll μ1 (Owned μ1 (upd st.σ idl (gh (.loop rec) env))) (W0.alloc (.loop rec)) caps cv := by
    have h1 : RepAll μ (Owned μ st.σ) W0 caps cv := by
      have h2 := rep_cx hs0 g0
      rw [hg] at h2
      simp only [Rep] at h2
      obtain ⟨cv', h3, h4⟩ := h2
      have : a.eval g0 = .func (.func gf) #[] ⟨cv'⟩ := h3
      rw [hgv] at this
      simp only [Value.func.injEq, Array.mk.injEq, true_and] at this
      rw [this]; exact h4
    exact RepAll.mono hle1 hk1 (by simp) _ _ h1
  obtain ⟨hcall, hiter⟩ := hit
  have key := hiter idl (fun pre σJ => σJ idl = some (gh (.loop rec) env) ∧ J pre (del σJ idl))
    (fun pre σJ => ∃ e : Option Nat, σJ idl = some (gh (.loop { rec with state := .done, pending := some (jumpOf e) }) env) ∧ Jx e pre (del σJ idl) ∧ ∀ id, e = some id → id ∈ exits)
    (upd st.σ idl (gh (.loop rec) env)) ?_ ⟨upd_same, by rw [del_upd hidn]; exact h0⟩
  · refine ⟨W0.heap.size, mark, _, _, _, gf, _, _, by rw [show F.fence.round = F.fence.round from rfl]; exact hrun, run_rangeCall hgv, fun _ _ => trivial,
      by simp only [invoke]; exact run_callFunc hcall _, fence_depth F, callsIn_fence ?_⟩
    have hargs : RepAll μ1 (Owned μ1 (upd st.σ idl (gh (.loop rec) env))) (W0.alloc (.loop rec)) (.yl idl :: caps) (.func (.yield W0.heap.size) #[] #[] :: cv) := by
      simp only [RepAll]
      exact ⟨_, _, rfl, by simp [Rep, hid1], hcvt⟩
    have hcl := key μ1 _ _ hsat1.here hargs
    have hvals : (Value.func (.yield W0.heap.size) #[] #[] :: cv).toArray = #[.func (.yield W0.heap.size) #[] #[]] ++ ⟨cv⟩ := by
      apply Array.ext'; simp
    rw [hvals] at hcl
    refine hcl.mono ?_
    rintro e w2 ⟨r, σ', μ', val, rfl, hp, hle2, hs2, -⟩
    obtain ⟨hs3, hk3⟩ := hsat1.compose hs2
    have hid2 : μ' idl = .lies W0.heap.size 0 0 := (hle2 idl (by rw [hid1]; simp)).trans hid1
    -- the end of the loop, whatever the record
    have fin : ∀ (rec2 : Loop), σ' idl = some (gh (.loop rec2) env) → rec2.state ≠ .busy → ∃ w4, (Instr.endLoop W0.heap.size).run P w2 = .ok rec2.pending w4 ∧
        SatF F ⟨st.s, del σ' idl⟩ { a with defers := mark ++ a.defers } w4 := by
      intro rec2 hrow hst
      obtain ⟨hl2, henv2⟩ := hs2.getG hrow hid2
      refine ⟨_, run_endLoop hl2 hst, μ', ?_⟩
      have hset := hs3.setG hrow hid2 (.loop { rec2 with state := .exhausted }) env henv2
      have hsub : SubStore (del σ' idl) (upd σ' idl (gh (.loop { rec2 with state := .exhausted }) env)) := fun i o h => by
        unfold del at h
        split at h
        · cases h
        · rename_i hi; rw [upd_ne hi]; exact h
      have hks := Keeps.sub (μ := μ') (w2.putObj W0.heap.size (.loop { rec2 with state := .exhausted })) hsub
      have hsz2 := hs2.size
      have hkall : Keeps (Owned μ st.σ) (Owned μ' (del σ' idl)) W0 (w2.putObj W0.heap.size (.loop { rec2 with state := .exhausted })) := fun b hb hn => by
        obtain ⟨q1, q2⟩ := hk1 b hb hn
        have hb1 : b < (W0.alloc (.loop rec)).heap.size := by simp; omega
        obtain ⟨q3, q4⟩ := hk3 b hb1 q1
        have hb2 : b < w2.heap.size := Nat.lt_of_lt_of_le hb1 hsz2
        obtain ⟨q5, q6⟩ := hset.2 b hb2 q3
        exact ⟨fun ho => q5 (ho.sub hsub), q6.trans (q4.trans q2)⟩
      have hle3 : MuLe μ μ' := hle1.trans hle2
      have hz : W0.heap.size ≤ (w2.putObj W0.heap.size (.loop { rec2 with state := .exhausted })).heap.size := by
        simp at hsz2 ⊢; omega
      exact ⟨hset.1.drop hsub, hs0.le.trans hle3, hs0.size, hs0.book.keep hkall, fun i hi => Rep.mono hle3 hkall hz _ _ (hs0.slot i hi)⟩
    rcases hp with ⟨hrow, hj⟩ | ⟨pre, hpre, e, hrow, hj, hin⟩
    · obtain ⟨w4, g1, g2⟩ := fin rec hrow (by rw [hr1]; simp)
      refine ⟨_, w4, g1, ?_⟩
      rw [hr2]
      exact hdone _ hj F rfl kt' hk' _ _ g2
    · obtain ⟨w4, g1, g2⟩ := fin _ hrow (by simp)
      refine ⟨_, w4, g1, ?_⟩
      cases e with
      | none => exact hret pre _ hpre hj F rfl (.code .ret :: kt') (by simp [KI.it, hk', ccode]) _ _ g2
      | some id => exact hexit id (hin id rfl) pre _ hpre hj F rfl (.code (.exit id) :: kt') (by simp [KI.it, hk', ccode]) _ _ g2
  · intro pre x post σJ σ hxs hJ hsub
    have hx : x.length = rec.params.toList.length := by rw [hr4]; exact hlen x (by rw [hxs]; simp)
    have hb := hbody pre x post (del σJ idl) (del σ idl) hxs hJ.2 (del_sub hsub)
    subst hE
    refine round_YC hr1 hr2 hszn hx hJ.1 hsub (J (pre ++ [x])) exits (fun e => Jx e (pre ++ [x])) ?_
    rw [hr4, hr5, hr6]
    exact hb
end Go.Vc
namespace Go.Vc
variable {P : Program} {n : Nat} {st : St} {Q : St → Prop} {k : List It}
def readyV (deps : List (List Nat)) (listed : List Nat) : List Nat := (List.range deps.length).filter fun i => !listed.contains i && (deps.getD i []).all listed.contains
def allV (P : Program) (l : List VIns) (rec : List Nat → St → Prop) (listed : List Nat) (x : St) : List Nat → Prop
  | [] => True
  | i :: is => (match l[i]? with
      | some ins => T P ins x (rec (i :: listed))
      | none => False) ∧ allV P l rec listed x is
def anyV (P : Program) (l : List VIns) (deps : List (List Nat)) (Q : St → Prop) : Nat → List Nat → St → Prop
  | 0, listed, x => readyV deps listed = [] ∧ Q x
  | f + 1, listed, x => match readyV deps listed with
      | [] => Q x
      | i :: is => allV P l (anyV P l deps Q f) listed x (i :: is)
theorem allV_mem {l : List VIns} {rec : List Nat → St → Prop} {listed : List Nat} {x : St} : ∀ {is : List Nat}, allV P l rec listed x is → ∀ i ∈ is, ∃ ins, l[i]? = some ins ∧ T P ins x (rec (i :: listed))
  | [], _, _, hi => by cases hi
  | j :: is, h, i, hi => by
    obtain ⟨h1, h2⟩ := h
    rcases List.mem_cons.1 hi with rfl | hi
    · cases hl : l[i]? with
      | none => rw [hl] at h1; exact h1.elim
      | some ins => rw [hl] at h1; exact ⟨ins, rfl, h1⟩
    · exact allV_mem h2 i hi
abbrev depsOf (ops : Array Oper) : List (List Nat) := ops.toList.map fun o => (o.after.toList.filter (Region.binds .any)).map (·.on)
theorem readyV_eq {ops : Array Oper} {arr : Array Bool} {listed : List Nat} (hs : arr.size = ops.size) (hl : ∀ i, i < ops.size → arr.getD i true = listed.contains i)
    (ho : ∀ i ∈ listed, i < ops.size) : Region.ready .any ops arr = readyV (depsOf ops) listed := by
  unfold Region.ready readyV
  have hlen : (depsOf ops).length = ops.size := by simp [depsOf]
  rw [hlen]
  refine List.filter_congr fun i hi => ?_
  have hi : i < ops.size := by simpa using hi
  rw [hl i hi]
  congr 1
  have h1 : ops[i]? = some ops[i] := Array.getElem?_eq_getElem hi
  have h2 : (depsOf ops).getD i [] = (ops[i].after.toList.filter (Region.binds .any)).map (·.on) := by
    rw [List.getD_eq_getElem?_getD]
    simp [depsOf, hi]
  rw [h1, h2]
  simp only [Option.map_some, Option.getD_some]
  rw [← Array.all_toList, List.all_map, List.all_filter]
  congr 1
  funext e
  simp only [Function.comp]
  have h3 : arr.getD e.on false = listed.contains e.on := by
    by_cases he : e.on < ops.size
    · rw [← hl _ he, Array.getD_eq_getD_getElem?, Array.getD_eq_getD_getElem?, Array.getElem?_eq_getElem (by omega)]
      rfl
    · rw [Array.getD_eq_getD_getElem?, Array.getElem?_eq_none (by omega)]
      simp only [Option.getD_none]
      symm
      rw [Bool.eq_false_iff]
      intro hc
      exact he (ho _ (by simpa using hc))
  rw [h3]
theorem wpAnyT_of_anyV {ops : Array Oper} {Q : St → Prop} : ∀ (f : Nat) (arr : Array Bool) (listed : List Nat) (x : St), arr.size = ops.size → (∀ i, i < ops.size → arr.getD i true = listed.contains i) →
    (∀ i ∈ listed, i < ops.size) → anyV P (ops.toList.map (cins P n ops)) (depsOf ops) Q f listed x → wpAnyT P n ops Q f arr x
  | 0, arr, listed, x, hs, hl, ho, h => ⟨by rw [readyV_eq hs hl ho]; exact h.1, h.2⟩
  | f + 1, arr, listed, x, hs, hl, ho, h => by
    have hr := readyV_eq hs hl ho
    unfold anyV at h
    refine ⟨fun h0 => ?_, fun i hi => ?_⟩
    · rw [hr] at h0
      rw [h0] at h
      exact h
    · rw [hr] at hi
      have hlt : i < ops.size := by
        have := (List.mem_filter.1 hi).1
        simpa [depsOf] using this
      have hall : allV P (ops.toList.map (cins P n ops)) (anyV P (ops.toList.map (cins P n ops)) (depsOf ops) Q f) listed x (readyV (depsOf ops) listed) := by
        cases hrr : readyV (depsOf ops) listed with
        | nil => exact trivial
        | cons j js => rw [hrr] at h; exact h
      obtain ⟨ins, h1, h2⟩ := allV_mem hall i hi
      have h3 : ops[i]? = some ops[i] := Array.getElem?_eq_getElem hlt
      have h4 : ins = cins P n ops ops[i] := by simpa [hlt] using h1.symm
      unfold Tn
      simp only [h3]
      rw [← h4]
      refine h2.mono fun x' hx' => wpAnyT_of_anyV f _ (i :: listed) x' (by simpa using hs) (fun j hj => ?_) (fun j hj => ?_) hx'
      · by_cases e : j = i
        · subst e
          rw [Array.getD_eq_getD_getElem?, Array.getElem?_setIfInBounds_self_of_lt (by omega)]
          simp
        · rw [Array.getD_eq_getD_getElem?, Array.getElem?_setIfInBounds_ne (fun e' => e e'.symm), ← Array.getD_eq_getD_getElem?, hl j hj]
          simp [e]
      · rcases List.mem_cons.1 hj with rfl | hj
        · exact hlt
        · exact ho j hj
theorem Runs.regA (hm : P.follows .mixedOrders = true) {l : List VIns} {deps : List (List Nat)} (h : anyV P l deps (fun x => Runs P n k x Q) l.length [] st) : Runs P n (.code (.regA l deps) :: k) st Q := by
  intro F hn kt hk a w hs
  obtain ⟨z, kt', rfl, hy, hk'⟩ := kt_cons hk
  obtain ⟨c0, rfl, hcc⟩ := it_code hy
  have hc0 : ∃ id ops, c0 = .region id ops true ∧ ops.toList.map (cins P n ops) = l ∧ depsOf ops = deps := by
    cases c0 <;> simp only [ccode, reduceCtorEq] at hcc
    rename_i id ops draw
    cases draw
    · simp at hcc
    · simp only [Bool.true_and] at hcc
      split at hcc
      · cases hcc
      split at hcc
      · simp only [VCode.regA.injEq] at hcc
        exact ⟨id, ops, rfl, hcc.1, hcc.2⟩
      · simp at hcc
  obtain ⟨id, ops, rfl, rfl, rfl⟩ := hc0
  have hs' : SatF F st a { w with drawn := w.drawn + 1 } := by
    obtain ⟨μ, hs⟩ := hs
    have hk : Keeps (Owned μ st.σ) (Owned μ st.σ) w { w with drawn := w.drawn + 1 } := fun _ _ h => ⟨h, rfl⟩
    refine ⟨μ, ⟨⟨hs.sat.size, hs.sat.os, hs.sat.tape, hs.sat.output, hs.sat.same, hs.sat.fin, hs.sat.inj, fun id o ho => ?_, hs.sat.fresh, hs.sat.glob⟩, hs.le, hs.size, hs.book.keep hk, fun i hi => ?_⟩⟩
    · exact (hs.sat.obj id o ho).mono (MuLe.refl μ) hk (Nat.le_refl _) (fun _ _ _ _ => rfl)
    · exact Rep.mono (MuLe.refl μ) hk (Nat.le_refl _) _ _ (hs.slot i hi)
  refine wpIn_region_any hm (wpAny_of_T (Q := fun x => Runs P n k x Q) hn (fun x a w hs h => h F hn kt' hk' a w hs) _ _ _ _ _ hs' ?_)
  have := wpAnyT_of_anyV (P := P) (n := n) (Q := fun x => Runs P n k x Q) (ops := ops) ops.size (Array.replicate ops.size false) [] st (by simp) (fun i hi => by
    rw [Array.getD_eq_getD_getElem?, Array.getElem?_replicate, if_pos hi]; simp) (by simp) (by simpa using h)
  exact this
end Go.Vc
namespace Go.Vc
theorem BB : (((((((type_of% @s_r_nil) ∧ (type_of% @Ret_one)) ∧ ((type_of% @Ret_two) ∧ (type_of% @Ret_three))) ∧ (((type_of% @Ret_none) ∧ (type_of% @Ret_cell_one)) ∧ ((type_of% @Ret_cell_two) ∧ (type_of% @onSome_some)))) ∧ ((((type_of% @s_r_stop) ∧ (type_of% @s_r_inBlock)) ∧ ((type_of% @s_r_ops_nil) ∧ (type_of% @s_r_skip))) ∧ (((type_of% @s_r_seq) ∧ (type_of% @s_r_block)) ∧ ((type_of% @s_r_exit) ∧ (type_of% @exR_some))))) ∧ (((((type_of% @s_r_ret) ∧ (type_of% @s_r_loop)) ∧ ((type_of% @s_r_rangeF) ∧ (type_of% @s_r_reg))) ∧ (((type_of% @s_r_dreg) ∧ (type_of% @s_r_regL)) ∧ ((type_of% @s_d_nil) ∧ (type_of% @s_r_cond)))) ∧ ((((type_of% @cR_t) ∧ (type_of% @cR_f)) ∧ ((type_of% @cR_dec) ∧ (type_of% @s_r_ins))) ∧ (((type_of% @insR_0) ∧ (type_of% @insR_1)) ∧ ((type_of% @insR_2) ∧ ((type_of% @insR_3) ∧ (type_of% @insR_4))))))) ∧ ((((((type_of% @callR_some) ∧ (type_of% @callR_none)) ∧ ((type_of% @callV_eq) ∧ (type_of% @callD_some))) ∧ (((type_of% @callD_none) ∧ (type_of% @contR_some)) ∧ ((type_of% @storeR_some) ∧ (type_of% @s_d_ins)))) ∧ ((((type_of% @insD_0) ∧ (type_of% @insD_1)) ∧ ((type_of% @insD_2) ∧ (type_of% @insD_3))) ∧ (((type_of% @contD_some) ∧ (type_of% @storeD_some)) ∧ ((type_of% @s_r_gins) ∧ ((type_of% @gR_tup) ∧ (type_of% @gR_tt)))))) ∧ (((((type_of% @gR_ff) ∧ (type_of% @gR_tf)) ∧ ((type_of% @gR_ft) ∧ (type_of% @gR_dec_t))) ∧ (((type_of% @gR_dec_f) ∧ (type_of% @s_d_gins)) ∧ ((type_of% @gD_tup) ∧ (type_of% @gD_tt)))) ∧ ((((type_of% @gD_ff) ∧ (type_of% @gD_tf)) ∧ ((type_of% @gD_ft) ∧ (type_of% @gD_dec_t))) ∧ (((type_of% @gD_dec_f) ∧ (type_of% @putO_nothing)) ∧ ((type_of% @putO_lo) ∧ ((type_of% @putO_hi) ∧ (type_of% @mix_get)))))))) ∧ (((((((type_of% @putO_some) ∧ (type_of% @putO_none)) ∧ ((type_of% @lit_t) ∧ (type_of% @lit_c))) ∧ (((type_of% @ev_t) ∧ (type_of% @ev_c)) ∧ ((type_of% @binV_int) ∧ (type_of% @binV_str)))) ∧ ((((type_of% @binPre_int) ∧ (type_of% @binPre_str)) ∧ ((type_of% @lenV_own) ∧ (type_of% @lenV_sl))) ∧ (((type_of% @lenV_nils) ∧ (type_of% @lenV_str)) ∧ ((type_of% @idxAV_own) ∧ (type_of% @loadV_ptr))))) ∧ (((((type_of% @loadV_rp_agg) ∧ (type_of% @loadV_rp_int)) ∧ ((type_of% @upd_same) ∧ (type_of% @upd_upd))) ∧ (((type_of% @true_implies) ∧ (type_of% @false_implies)) ∧ ((type_of% @implies_true.{0}) ∧ (type_of% @keepS_eq)))) ∧ ((((type_of% @List.getD_cons_zero.{0}) ∧ (type_of% @List.getD_cons_succ.{0})) ∧ ((type_of% @List.getD_nil.{0}) ∧ (type_of% @List.map_cons.{0, 0}))) ∧ (((type_of% @List.map_nil.{0, 0}) ∧ (type_of% @List.length_cons.{0})) ∧ ((type_of% @List.length_nil.{0}) ∧ ((type_of% @List.drop_succ_cons.{0}) ∧ (type_of% @List.drop_zero.{0}))))))) ∧ ((((((type_of% @List.take_succ_cons.{0}) ∧ (type_of% @List.take_zero.{0})) ∧ ((type_of% @List.set_cons_zero.{0}) ∧ (type_of% @List.set_cons_succ.{0}))) ∧ (((type_of% @List.append_nil.{0}) ∧ (type_of% @List.nil_append.{0})) ∧ ((type_of% @List.cons_append.{0}) ∧ (type_of% @List.all_cons.{0})))) ∧ ((((type_of% @List.all_nil.{0}) ∧ (type_of% @List.getElem?_cons_zero.{0})) ∧ ((type_of% @List.getElem?_cons_succ.{0}) ∧ (type_of% @List.contains_cons.{0}))) ∧ (((type_of% @List.contains_nil.{0}) ∧ (type_of% @Option.isSome_some.{0})) ∧ ((type_of% @Option.map_some.{0, 0}) ∧ ((type_of% @Option.map_none.{0, 0}) ∧ (type_of% @true_and)))))) ∧ (((((type_of% @and_true) ∧ (type_of% @and_self)) ∧ ((type_of% @Nat.zero_add) ∧ (type_of% @Nat.add_zero))) ∧ (((type_of% @Bool.not_true) ∧ (type_of% @Bool.not_false)) ∧ ((type_of% @Bool.false_eq_true) ∧ (type_of% @Bool.or_true)))) ∧ ((((type_of% @Bool.true_or) ∧ (type_of% @Bool.or_false)) ∧ ((type_of% @Bool.false_or) ∧ (type_of% @Bool.true_and))) ∧ (((type_of% @Bool.and_true) ∧ (type_of% @Bool.and_self)) ∧ ((type_of% @decide_true) ∧ ((type_of% @decide_false) ∧ (type_of% @decide_eq_true_eq)))))))) :=
  ⟨⟨⟨⟨⟨⟨⟨@s_r_nil, @Ret_one⟩, ⟨@Ret_two, @Ret_three⟩⟩, ⟨⟨@Ret_none, @Ret_cell_one⟩, ⟨@Ret_cell_two, @onSome_some⟩⟩⟩, ⟨⟨⟨@s_r_stop, @s_r_inBlock⟩, ⟨@s_r_ops_nil, @s_r_skip⟩⟩, ⟨⟨@s_r_seq, @s_r_block⟩, ⟨@s_r_exit, @exR_some⟩⟩⟩⟩, ⟨⟨⟨⟨@s_r_ret, @s_r_loop⟩, ⟨@s_r_rangeF, @s_r_reg⟩⟩, ⟨⟨@s_r_dreg, @s_r_regL⟩, ⟨@s_d_nil, @s_r_cond⟩⟩⟩, ⟨⟨⟨@cR_t, @cR_f⟩, ⟨@cR_dec, @s_r_ins⟩⟩, ⟨⟨@insR_0, @insR_1⟩, ⟨@insR_2, ⟨@insR_3, @insR_4⟩⟩⟩⟩⟩⟩, ⟨⟨⟨⟨⟨@callR_some, @callR_none⟩, ⟨@callV_eq, @callD_some⟩⟩, ⟨⟨@callD_none, @contR_some⟩, ⟨@storeR_some, @s_d_ins⟩⟩⟩, ⟨⟨⟨@insD_0, @insD_1⟩, ⟨@insD_2, @insD_3⟩⟩, ⟨⟨@contD_some, @storeD_some⟩, ⟨@s_r_gins, ⟨@gR_tup, @gR_tt⟩⟩⟩⟩⟩, ⟨⟨⟨⟨@gR_ff, @gR_tf⟩, ⟨@gR_ft, @gR_dec_t⟩⟩, ⟨⟨@gR_dec_f, @s_d_gins⟩, ⟨@gD_tup, @gD_tt⟩⟩⟩, ⟨⟨⟨@gD_ff, @gD_tf⟩, ⟨@gD_ft, @gD_dec_t⟩⟩, ⟨⟨@gD_dec_f, @putO_nothing⟩, ⟨@putO_lo, ⟨@putO_hi, @mix_get⟩⟩⟩⟩⟩⟩⟩, ⟨⟨⟨⟨⟨⟨@putO_some, @putO_none⟩, ⟨@lit_t, @lit_c⟩⟩, ⟨⟨@ev_t, @ev_c⟩, ⟨@binV_int, @binV_str⟩⟩⟩, ⟨⟨⟨@binPre_int, @binPre_str⟩, ⟨@lenV_own, @lenV_sl⟩⟩, ⟨⟨@lenV_nils, @lenV_str⟩, ⟨@idxAV_own, @loadV_ptr⟩⟩⟩⟩, ⟨⟨⟨⟨@loadV_rp_agg, @loadV_rp_int⟩, ⟨@upd_same, @upd_upd⟩⟩, ⟨⟨@true_implies, @false_implies⟩, ⟨@implies_true.{0}, @keepS_eq⟩⟩⟩, ⟨⟨⟨@List.getD_cons_zero.{0}, @List.getD_cons_succ.{0}⟩, ⟨@List.getD_nil.{0}, @List.map_cons.{0, 0}⟩⟩, ⟨⟨@List.map_nil.{0, 0}, @List.length_cons.{0}⟩, ⟨@List.length_nil.{0}, ⟨@List.drop_succ_cons.{0}, @List.drop_zero.{0}⟩⟩⟩⟩⟩⟩, ⟨⟨⟨⟨⟨@List.take_succ_cons.{0}, @List.take_zero.{0}⟩, ⟨@List.set_cons_zero.{0}, @List.set_cons_succ.{0}⟩⟩, ⟨⟨@List.append_nil.{0}, @List.nil_append.{0}⟩, ⟨@List.cons_append.{0}, @List.all_cons.{0}⟩⟩⟩, ⟨⟨⟨@List.all_nil.{0}, @List.getElem?_cons_zero.{0}⟩, ⟨@List.getElem?_cons_succ.{0}, @List.contains_cons.{0}⟩⟩, ⟨⟨@List.contains_nil.{0}, @Option.isSome_some.{0}⟩, ⟨@Option.map_some.{0, 0}, ⟨@Option.map_none.{0, 0}, @true_and⟩⟩⟩⟩⟩, ⟨⟨⟨⟨@and_true, @and_self⟩, ⟨@Nat.zero_add, @Nat.add_zero⟩⟩, ⟨⟨@Bool.not_true, @Bool.not_false⟩, ⟨@Bool.false_eq_true, @Bool.or_true⟩⟩⟩, ⟨⟨⟨@Bool.true_or, @Bool.or_false⟩, ⟨@Bool.false_or, @Bool.true_and⟩⟩, ⟨⟨@Bool.and_true, @Bool.and_self⟩, ⟨@decide_true, ⟨@decide_false, @decide_eq_true_eq⟩⟩⟩⟩⟩⟩⟩⟩
end Go.Vc
namespace Go.Vc
theorem SubStore.delK {σ0 σ : Store} {e : Nat} (h : SubStore σ0 σ) (he : σ0 e = Option.none) : SubStore σ0 (del σ e) := fun i x hx => by
  have hne : i ≠ e := fun e' => by rw [e', he] at hx; cases hx
  rw [del_ne hne]
  exact h i x hx
theorem s_zero : (∀ {P : Program} {O : Orc P} {n : Nat} {k : List It} {st : St} {Q : St → Prop}, step P O n 0 (.r k) st Q = Kof P n k st Q) ∧ (∀ {P : Program} {n : Nat} {c : VCode} {k : List It} {st : St} {Q : St → Prop}, Kof P n (.code c :: k) st Q = Runs P n (.code c :: k) st Q) ∧
    (∀ {P : Program} {n : Nat} {l : List VIns} {k : List It} {st : St} {Q : St → Prop}, Kof P n (.ops l :: k) st Q = Runs P n (.ops l :: k) st Q) ∧ (∀ {P : Program} {n id : Nat} {k : List It} {st : St} {Q : St → Prop}, Kof P n (.inBlock id :: k) st Q = Runs P n (.inBlock id :: k) st Q) ∧
    ∀ {P : Program} {n : Nat} {st : St} {Q : St → Prop}, Kof P n [] st Q = Runs P n [] st Q := ⟨rfl, rfl, rfl, rfl, rfl⟩
theorem Wk.nils {σ σ' : Store} (sz : Nat) : Wk σ σ' .nils (.sl sz []) := by
  intro μ w0 w ow0 x hs hr
  simp only [Rep] at hr ⊢
  exact ⟨none, 0, by simpa using hr, by simp, .inl trivial⟩
def OutV (K σ : Store) (e sz : Nat) (v : V) (rows : List V) : Prop := (v = .nils ∧ rows = []) ∨ ∃ id, v = .own id 0 rows.length ∧ σ id = some ⟨e, sz, rows⟩ ∧ K id = none
theorem OutV.wk {K σ : Store} {e sz : Nat} {v : V} {rows : List V} (h : OutV K σ e sz v rows) {K' : Store} (hK : SubStore K' K) (hs : SubStore K' σ) : Wk σ K' v (.sl sz rows) := by
  rcases h with ⟨rfl, rfl⟩ | ⟨id, rfl, ho, hk⟩
  · exact Wk.nils sz
  · have := Wk.own hs ho (hK.none hk) (off := 0) (len := rows.length) (by simp)
    rw [List.drop_zero, List.take_length] at this
    exact this
theorem OutV.retv {K σ : Store} {e sz : Nat} {v : V} {rows : List V} (h : OutV K σ e sz v rows) (hs : SubStore K σ) {v0 : V} (hv : V.sl sz rows = v0) :
    RetV v σ fun r σ' => r = v0 ∧ σ' = K := ⟨_, K, hs, h.wk (SubStore.refl K) hs, hv, rfl⟩
theorem effR_put {P : Program} {n : Nat} {Q : St → Prop} {k : List It} {O : Orc P} {f : Nat} {d : Option Nat} {l : List VIns} {v : Nat → V} {ob : Ob} {s : Nat → V} {σ : Store} {e : Option Nat}
    (h : ∀ id σ', SubStore (delO σ e) σ' → σ' id = some ob → σ id = none → step P O n f (.r (.ops l :: k)) ⟨putO s d (v id), σ'⟩ Q) :
    effR P O n f l k d ⟨s, σ⟩ Q (some fun id => (v id, Vc.upd (delO σ e) id ob)) := by
  rw [effR_some]
  refine fun id hid => h id _ ((SubStore.refl _).upd ?_) upd_same hid
  cases e with
  | none => exact hid
  | some e =>
    simp only [delO,del]
    split
    · rfl
    · exact hid
theorem OutV.dst {K σ : Store} {e sz : Nat} {v : V} {rows : List V} (h : OutV K σ e sz v rows) {σ1 : Store} (hs : SubStore σ σ1) :
    ∃ idA, dstRows σ1 e sz v = some (rows, idA) ∧ ∀ K' : Store, SubStore K' K → ∀ σ2, SubStore K' σ2 → SubStore K' (delO σ2 idA) := by
  rcases h with ⟨rfl, rfl⟩ | ⟨id, rfl, ho, hk⟩
  · exact ⟨none, rfl, fun _ _ _ h => h⟩
  · refine ⟨some id, ?_, fun K' hK σ2 h => h.delK (hK.none hk)⟩
    simp only [dstRows,hs _ _ ho]
    rw [if_pos ⟨trivial, trivial, trivial, Nat.le_refl _⟩, List.take_length]
theorem OutV.start {K σ : Store} {e sz : Nat} : OutV K σ e sz .nils [] := .inl ⟨rfl, rfl⟩
theorem OutV.new {K σ : Store} {e sz id : Nat} {rows : List V} {n : Nat} (hn : n = rows.length) (h : σ id = some ⟨e, sz, rows⟩) (hk : K id = none) : OutV K σ e sz (.own id 0 n) rows := by
  subst hn; exact .inr ⟨id, rfl, h, hk⟩
theorem OutV.len {K σ : Store} {e sz : Nat} {v : V} {rows : List V} (h : OutV K σ e sz v rows) : lenV false v = some (.int .i64 rows.length) := by
  rcases h with ⟨rfl, rfl⟩ | ⟨id, rfl, ho, hk⟩ <;> rfl
theorem OutV.mono {K σ σ' : Store} {e sz : Nat} {v : V} {rows : List V} (h : OutV K σ e sz v rows) (hs : SubStore σ σ') : OutV K σ' e sz v rows := by
  rcases h with h | ⟨id, h1, h2, h3⟩
  · exact .inl h
  · exact .inr ⟨id, h1, hs _ _ h2, h3⟩
theorem srcOne {σ : Store} {id e sz : Nat} {r : V} (h : σ id = some ⟨e, sz, [r]⟩) : srcRows σ sz (.own id 0 1) = some [r] := by
  simp [srcRows, h]
theorem Wk.ptr {σ σ' : Store} (h : SubStore σ' σ) {id : Nat} {e sz : Nat} {r : V} (ho : σ id = some ⟨e, sz, [r]⟩) (hid : σ' id = none) : Wk σ σ' (.ptr id 0 0) (.rp r) := by
  intro μ w0 w ow0 x hs hr
  simp only [Rep] at hr ⊢
  have hob := hs.obj id _ ho
  split at hr
  · rename_i b sz' cap hb
    obtain ⟨rfl, hz⟩ := hr
    rw [hb] at hob
    have hlt : b < w.heap.size := Owned.lt hs ⟨id, _, _, _, ho, hb⟩
    obtain ⟨g1, g2, g3, g4, g5⟩ := hob.rows hz
    refine ⟨b, _, rfl, hlt, .inr ?_, ?_⟩
    · rintro ⟨id', ob', sz'', cap'', e1, e2⟩
      have := hs.inj id' id ob' _ _ _ _ _ _ (h _ _ e1) ho e2 hb
      rw [this, hid] at e1
      cases e1
    · simp only [RepRows] at g5
      have := RepRows.mono (MuLe.refl μ) (Keeps.sub w h) (Nat.le_refl _) [r] b 0 sz' rfl (by simp only [RepRows]; exact ⟨g5.1, g5.2.1, trivial⟩)
      simp only [RepRows] at this
      simpa using this.2.1
  · exact hr.elim
theorem Wk.fn {σ σ' : Store} {f : FuncId} {vs vs' : List V} (h : WkL σ σ' vs vs') : Wk σ σ' (.fn f vs) (.fn f vs') := by
  intro μ w0 w ow0 x hs hr
  simp only [Rep] at hr ⊢
  obtain ⟨vals, rfl, h1⟩ := hr
  exact ⟨vals, rfl, WkL.all hs h h1⟩
theorem V.cells_agg (vs : List V) : V.cells (.agg vs) = vs := rfl
theorem V.cells_int (k : IntKind) (i : Int) : V.cells (.int k i) = [.int k i] := rfl
theorem V.cells_nils : V.cells .nils = [.nils] := rfl
theorem V.cells_own (a b c : Nat) : V.cells (.own a b c) = [.own a b c] := rfl
theorem V.cells_sl (a : Nat) (b : List V) : V.cells (.sl a b) = [.sl a b] := rfl
theorem V.cells_str (a : List UInt8) : V.cells (.str a) = [.str a] := rfl
theorem V.cells_bool (a : Bool) : V.cells (.bool a) = [.bool a] := rfl
theorem V.cells_fn (a : FuncId) (b : List V) : V.cells (.fn a b) = [.fn a b] := rfl
theorem V.cells_ptr (a b c : Nat) : V.cells (.ptr a b c) = [.ptr a b c] := rfl
theorem V.cells_rp (a : V) : V.cells (.rp a) = [.rp a] := rfl
theorem V.stays_agg (vs : List V) : V.stays (.agg vs) = true := rfl
theorem V.stays_int (k : IntKind) (i : Int) : V.stays (.int k i) = true := rfl
theorem V.stays_nils : V.stays .nils = true := rfl
theorem V.stays_own (a b c : Nat) : V.stays (.own a b c) = true := rfl
theorem V.stays_sl (a : Nat) (b : List V) : V.stays (.sl a b) = true := rfl
theorem V.stays_str (a : List UInt8) : V.stays (.str a) = true := rfl
theorem V.stays_bool (a : Bool) : V.stays (.bool a) = true := rfl
theorem V.stays_fn (a : FuncId) (b : List V) : V.stays (.fn a b) = true := rfl
theorem V.stays_ptr (a b c : Nat) : V.stays (.ptr a b c) = true := rfl
theorem V.stays_rp (a : V) : V.stays (.rp a) = true := rfl
end Go.Vc
namespace Go.Vc
mutual
/-- free of memory -/
def V.pv : V → Bool
  | .int .. | .bool _ | .str _ | .nils | .nilp | .nilfn | .niliface => true
  | .agg cs | .tup cs => pvL cs
  | .iface _ v => v.pv
  | _ => false
def pvL : List V → Bool
  | [] => true
  | v :: vs => v.pv && pvL vs
end
mutual
theorem Rep.pv {μ μ' : Mu} {ow ow' : Nat → Prop} {w w' : World} : ∀ {v : V} {x : Value}, v.pv = true → Rep μ ow w v x → Rep μ' ow' w' v x
  | .int .., _, _, h => by simpa [Rep] using h
  | .bool _, _, _, h => by simpa [Rep] using h
  | .str _, _, _, h => by simpa [Rep] using h
  | .nils, _, _, h => by simpa [Rep] using h
  | .nilp, _, _, h => by simpa [Rep] using h
  | .nilfn, _, _, h => by simpa [Rep] using h
  | .niliface, _, _, h => by simpa [Rep] using h
  | .agg cs, x, hv, h => by
    simp only [V.pv] at hv
    simp only [Rep] at h ⊢
    obtain ⟨vals, rfl, h1, h2⟩ := h
    exact ⟨vals, rfl, RepAll.pv hv h1, h2⟩
  | .tup cs, x, hv, h => by
    simp only [V.pv] at hv
    simp only [Rep] at h ⊢
    obtain ⟨vals, rfl, h1⟩ := h
    exact ⟨vals, rfl, RepAll.pv hv h1⟩
  | .iface t v, x, hv, h => by
    simp only [V.pv] at hv
    simp only [Rep] at h ⊢
    obtain ⟨y, rfl, h1⟩ := h
    exact ⟨y, rfl, Rep.pv hv h1⟩
  | .undef, _, hv, _ => by simp [V.pv] at hv
  | .sl .., _, hv, _ => by simp [V.pv] at hv
  | .own .., _, hv, _ => by simp [V.pv] at hv
  | .ptr .., _, hv, _ => by simp [V.pv] at hv
  | .rp _, _, hv, _ => by simp [V.pv] at hv
  | .fn .., _, hv, _ => by simp [V.pv] at hv
  | .bm .., _, hv, _ => by simp [V.pv] at hv
  | .raw _, _, hv, _ => by simp [V.pv] at hv
  | .obj _, _, hv, _ => by simp [V.pv] at hv
  | .gp _, _, hv, _ => by simp [V.pv] at hv
  | .yl _, _, hv, _ => by simp [V.pv] at hv
  | .mp _, _, hv, _ => by simp [V.pv] at hv
theorem RepAll.pv {μ μ' : Mu} {ow ow' : Nat → Prop} {w w' : World} : ∀ {vs : List V} {l : List Value}, pvL vs = true → RepAll μ ow w vs l → RepAll μ' ow' w' vs l
  | [], l, _, h => by simpa [RepAll] using h
  | u :: us, l, hv, h => by
    simp only [pvL,Bool.and_eq_true] at hv
    simp only [RepAll] at h ⊢
    obtain ⟨y, ys, rfl, h1, h2⟩ := h
    exact ⟨y, ys, rfl, Rep.pv hv.1 h1, RepAll.pv hv.2 h2⟩
end
end Go.Vc
