/- Part 3 of the library of this proof. -/
import Derived.Test.YtkmjiefaneibjaaGreatDoorW2
import Derived.TacticsIn
import Derived.RangeFuncNested
import Derived.RangeFuncLeaves
import Derived.Orders
import Derived.OrdersIn
import Derived.Lib.SliceRun
import Derived.WideLaws
set_option linter.all false
namespace Go.Vc
inductive It where
  | code (c : VCode)
  | inBlock (id : Nat)
  | ops (l : List VIns)
  | stop (I : St → Prop)
inductive KI where
  | code (c : Code)
  | inBlock (id : Nat)
  | ops (all : Array Oper) (l : List Oper)
  | stop (I : St → Prop)
def KI.it (P : Program) (n : Nat) : KI → It
  | .code c => .code (ccode P n c)
  | .inBlock id => .inBlock id
  | .ops all l => .ops (l.map (cins P n all))
  | .stop I => .stop I
def Fr.fence (F : Fr) : Fence := { Fence.wide with round := F.rd.map (·.1) }
theorem fence_depth (F : Fr) : F.fence.depth.isSome = true → 1 ≤ 0 := fun h => by simp [Fr.fence, Fence.wide] at h
theorem callsIn_fence {F : Fr} {n : Nat} {P : Program} {f : FuncId} {args : Array Value} {w : World} {R : Ending → World → Prop} (h : Calls P f args w R) : CallsIn F.fence n P f args w R := by
  have h1 : CallsIn Fence.wide n P f args w R := callsIn_wide.2 h
  exact h1
theorem opIn {F : Fr} {P : Program} {o : Oper} {a : Act} {w : World} {next : Act → World → Prop} {Q : Exit → Act → World → Prop} (hd : ∀ c, o.op ≠ .defer c) (h : o.wp P a w next Q) :
    o.wpIn F.fence 0 P a w next Q := by
  refine ⟨fun _ _ => trivial, ?_⟩
  rw [Oper.semAt_eq _ _ _ hd]
  unfold Oper.wp at h
  generalize (execOp a.eval o).run P w = r at *
  cases r with
  | ok x w' =>
    cases x <;> simp only [Oper.upon, Oper.uponIn] at h ⊢ <;> first
      | exact h
      | exact ⟨fence_depth F, callsIn_fence h⟩
      | contradiction
      | skip
    exact ⟨fence_depth F, fun c cs _ => let ⟨v, w', r, s⟩ := h c cs; ⟨v, w', r, stepsIn_wide.2 s⟩⟩
  | halt x w' => cases x <;> simp only [Oper.upon, Oper.uponIn] at h ⊢ <;> first | exact h | contradiction
theorem cop_defer {P : Program} {n : Nat} {o : Op} (h : cop P n o ≠ .bad) (c : Call) : o ≠ .defer c := fun e => by subst e; exact h rfl
def Kont (P : Program) (F : Fr) (Q : St → Prop) : List KI → Exit → Act → World → Prop
  | [], e, a, w => (e = .normal ∨ e = .ret) ∧ ∃ st, Q st ∧ SatF F st a w
  | .code c :: k, e, a, w => match e with
      | .normal => c.wpIn F.fence 0 P (Kont P F Q k) a w
      | e => Kont P F Q k e a w
  | .inBlock id :: k, e, a, w => Exit.inBlock id (Kont P F Q k) e a w
  | .ops all l :: k, e, a, w => match e with
      | .normal => wpListIn F.fence 0 P all (Kont P F Q k) l a w
      | e => Kont P F Q k e a w
  | .stop I :: k, e, a, w => match e with
      | .normal => ∃ st, I st ∧ SatF F st a w
      | e => Kont P F Q k e a w
def Runs (P : Program) (n : Nat) (todo : List It) (st : St) (Q : St → Prop) : Prop :=
  ∀ F : Fr, F.n = n → ∀ kt : List KI, kt.map (KI.it P n) = todo → ∀ a w, SatF F st a w → Kont P F Q kt .normal a w
variable {P : Program} {n : Nat} {st : St} {Q : St → Prop} {k : List It}
theorem Runs.nil (h : Q st) : Runs P n [] st Q := by
  intro F _ kt hk a w hs
  cases kt with
  | nil => exact ⟨.inl rfl, st, h, hs⟩
  | cons x kt => simp at hk
theorem kt_cons {kt : List KI} {x : It} (h : kt.map (KI.it P n) = x :: k) : ∃ y kt', kt = y :: kt' ∧ y.it P n = x ∧ kt'.map (KI.it P n) = k := by
  cases kt with
  | nil => simp at h
  | cons y kt' => simp only [List.map_cons, List.cons.injEq] at h; exact ⟨y, kt', rfl, h.1, h.2⟩
theorem it_code {y : KI} {c : VCode} (h : y.it P n = .code c) : ∃ c0, y = .code c0 ∧ ccode P n c0 = c := by
  cases y <;> simp only [KI.it, It.code.injEq, reduceCtorEq] at h
  exact ⟨_, rfl, h⟩
theorem Runs.skip (h : Runs P n k st Q) : Runs P n (.code .skip :: k) st Q := by
  intro F hn kt hk a w hs
  obtain ⟨y, kt', rfl, hy, hk'⟩ := kt_cons hk
  obtain ⟨c0, rfl, hc⟩ := it_code hy
  have hc0 : c0 = .skip := by
    cases c0 <;> simp only [ccode, reduceCtorEq] at hc <;> (try (split at hc; cases hc)) <;> (try (split at hc <;> cases hc)) <;> try rfl
  subst hc0
  exact wpIn_skip (h F hn kt' hk' a w hs)
theorem Runs.seq {x y : VCode} (h : Runs P n (.code x :: .code y :: k) st Q) : Runs P n (.code (.seq x y) :: k) st Q := by
  intro F hn kt hk a w hs
  obtain ⟨z, kt', rfl, hy, hk'⟩ := kt_cons hk
  obtain ⟨c0, rfl, hc⟩ := it_code hy
  have hc0 : ∃ x0 y0, c0 = .seq x0 y0 ∧ ccode P n x0 = x ∧ ccode P n y0 = y := by
    cases c0 <;> simp only [ccode, reduceCtorEq, VCode.seq.injEq] at hc
    case region => (split at hc; cases hc); split at hc <;> cases hc
    exact ⟨_, _, rfl, hc.1, hc.2⟩
  obtain ⟨x0, y0, rfl, rfl, rfl⟩ := hc0
  refine wpIn_seq (wpIn_mono (h F hn (.code x0 :: .code y0 :: kt') (by simp [KI.it, hk']) a w hs) ?_)
  intro e a' w' hq
  cases e <;> exact hq
theorem Runs.block {id : Nat} {x : VCode} (h : Runs P n (.code x :: .inBlock id :: k) st Q) : Runs P n (.code (.block id x) :: k) st Q := by
  intro F hn kt hk a w hs
  obtain ⟨z, kt', rfl, hy, hk'⟩ := kt_cons hk
  obtain ⟨c0, rfl, hc⟩ := it_code hy
  have hc0 : ∃ x0, c0 = .block id x0 ∧ ccode P n x0 = x := by
    cases c0 <;> simp only [ccode, reduceCtorEq, VCode.block.injEq] at hc
    case region => (split at hc; cases hc); split at hc <;> cases hc
    obtain ⟨rfl, h2⟩ := hc
    exact ⟨_, rfl, h2⟩
  obtain ⟨x0, rfl, rfl⟩ := hc0
  exact wpIn_block (h F hn (.code x0 :: .inBlock id :: kt') (by simp [KI.it, hk']) a w hs)
theorem Runs.inBlock {id : Nat} (h : Runs P n k st Q) : Runs P n (.inBlock id :: k) st Q := by
  intro F hn kt hk a w hs
  obtain ⟨z, kt', rfl, hy, hk'⟩ := kt_cons hk
  cases z <;> simp only [KI.it, It.inBlock.injEq, reduceCtorEq] at hy
  exact h F hn kt' hk' a w hs
theorem Runs.stop {I : St → Prop} (h : I st) : Runs P n (.stop I :: k) st Q := by
  intro F hn kt hk a w hs
  obtain ⟨z, kt', rfl, hy, hk'⟩ := kt_cons hk
  cases z <;> simp only [KI.it, It.stop.injEq, reduceCtorEq] at hy
  subst hy
  exact ⟨st, h, hs⟩
def popTo (id : Nat) : List It → Option (List It)
  | [] => none
  | .inBlock j :: k => if id = j then some k else popTo id k
  | _ :: k => popTo id k
theorem kont_exit {F : Fr} {id : Nat} {a : Act} {w : World} : ∀ {kt : List KI} {k' : List It}, popTo id (kt.map (KI.it P n)) = some k' →
    (∀ kt', kt'.map (KI.it P n) = k' → Kont P F Q kt' .normal a w) → Kont P F Q kt (.exit id) a w
  | [], _, h, _ => by simp [popTo] at h
  | .code c :: kt, _, h, hq => kont_exit (kt := kt) (by simpa [KI.it, popTo] using h) hq
  | .ops all l :: kt, _, h, hq => kont_exit (kt := kt) (by simpa [KI.it, popTo] using h) hq
  | .stop I :: kt, _, h, hq => kont_exit (kt := kt) (by simpa [KI.it, popTo] using h) hq
  | .inBlock j :: kt, k', h, hq => by
    simp only [List.map_cons, KI.it, popTo] at h
    simp only [Kont, Exit.inBlock]
    by_cases hj : id = j
    · rw [if_pos hj] at h ⊢
      simp only [Option.some.injEq] at h
      exact hq kt h
    · rw [if_neg hj] at h ⊢
      exact kont_exit h hq
theorem Runs.exit {id : Nat} {k' : List It} (hp : popTo id k = some k') (h : Runs P n k' st Q) : Runs P n (.code (.exit id) :: k) st Q := by
  intro F hn kt hk a w hs
  obtain ⟨z, kt', rfl, hy, hk'⟩ := kt_cons hk
  obtain ⟨c0, rfl, hc⟩ := it_code hy
  have hc0 : c0 = .exit id := by
    cases c0 <;> simp only [ccode, reduceCtorEq, VCode.exit.injEq] at hc
    case region => (split at hc; cases hc); split at hc <;> cases hc
    rw [hc]
  subst hc0
  exact wpIn_exit (kont_exit (n := n) (by rw [hk']; exact hp) (fun kt'' h'' => h F hn kt'' h'' a w hs))
theorem kont_ret {F : Fr} {a : Act} {w : World} (h : ∃ st, Q st ∧ SatF F st a w) : ∀ (kt : List KI), Kont P F Q kt .ret a w
  | [] => ⟨.inr rfl, h⟩
  | .code _ :: kt => kont_ret h kt
  | .inBlock _ :: kt => kont_ret h kt
  | .ops _ _ :: kt => kont_ret h kt
  | .stop _ :: kt => kont_ret h kt
theorem Runs.ret (h : Q st) : Runs P n (.code .ret :: k) st Q := by
  intro F hn kt hk a w hs
  obtain ⟨z, kt', rfl, hy, hk'⟩ := kt_cons hk
  obtain ⟨c0, rfl, hc⟩ := it_code hy
  have hc0 : c0 = .ret := by
    cases c0 <;> simp only [ccode, reduceCtorEq] at hc <;> (try (split at hc; cases hc)) <;> (try (split at hc <;> cases hc)) <;> try rfl
  subst hc0
  exact wpIn_ret (kont_ret ⟨st, h, hs⟩ kt')
theorem Runs.cond {c : VX} {x y : VCode} {b : Bool} (hc : c.ev st.s = .bool b) (h1 : b = true → Runs P n (.code x :: k) st Q) (h2 : b = false → Runs P n (.code y :: k) st Q) :
    Runs P n (.code (.cond c x y) :: k) st Q := by
  intro F hn kt hk a w hs
  obtain ⟨z, kt', rfl, hy, hk'⟩ := kt_cons hk
  obtain ⟨c0, rfl, hcc⟩ := it_code hy
  have hc0 : ∃ o x0 y0, c0 = .cond o x0 y0 ∧ cx n o = c ∧ ccode P n x0 = x ∧ ccode P n y0 = y := by
    cases c0 <;> simp only [ccode, reduceCtorEq, VCode.cond.injEq] at hcc
    case region => (split at hcc; cases hcc); split at hcc <;> cases hcc
    exact ⟨_, _, _, rfl, hcc.1, hcc.2.1, hcc.2.2⟩
  obtain ⟨o, x0, y0, rfl, rfl, rfl, rfl⟩ := hc0
  obtain ⟨μ, hs'⟩ := hs
  have he := rep_cx hs' o
  rw [hn, hc] at he
  simp only [Rep] at he
  exact wpIn_cond_split he (fun hb => h1 hb F hn (.code x0 :: kt') (by simp [KI.it, hk']) a w ⟨μ, hs'⟩) (fun hb => h2 hb F hn (.code y0 :: kt') (by simp [KI.it, hk']) a w ⟨μ, hs'⟩)
theorem Runs.region {l : List VIns} (h : Runs P n (.ops l :: k) st Q) : Runs P n (.code (.reg false l) :: k) st Q := by
  intro F hn kt hk a w hs
  obtain ⟨z, kt', rfl, hy, hk'⟩ := kt_cons hk
  obtain ⟨c0, rfl, hcc⟩ := it_code hy
  have hc0 : ∃ id ops, c0 = .region id ops false ∧ ops.toList.map (cins P n ops) = l := by
    cases c0 <;> simp only [ccode, reduceCtorEq] at hcc
    rename_i id ops draw
    cases draw
    · simp only [Bool.false_and, Bool.false_eq_true, if_false, VCode.reg.injEq, true_and] at hcc
      exact ⟨id, ops, rfl, hcc⟩
    · simp only [Bool.true_and] at hcc
      split at hcc
      · cases hcc
      · split at hcc
        · cases hcc
        · simp at hcc
  obtain ⟨id, ops, rfl, rfl⟩ := hc0
  exact wpIn_region_list (h F hn (.ops ops ops.toList :: kt') (by simp [KI.it, hk']) a w hs)
theorem Runs.ops_nil (h : Runs P n k st Q) : Runs P n (.ops [] :: k) st Q := by
  intro F hn kt hk a w hs
  obtain ⟨z, kt', rfl, hy, hk'⟩ := kt_cons hk
  cases z <;> simp only [KI.it, It.ops.injEq, reduceCtorEq, List.map_eq_nil_iff] at hy
  subst hy
  exact h F hn kt' hk' a w hs
def wantV (s : Nat → V) : Option (VX × Bool) → Option Bool
  | none => some true
  | some (x, b) => match x.ev s with
      | .bool c => some (c == b)
      | .tup [] => some false
      | .int _ _ => some false
      | _ => none
theorem want_of {F : Fr} {μ : Mu} {st : St} {a : Act} {w : World} (hs : SatM F μ st a w) (all : Array Oper) (o : Oper) {b : Bool} (h : wantV st.s (cins P F.n all o).g = some b) :
    Region.wanted o (yielded all a.tmps) = b := by
  unfold Region.wanted
  cases hg : o.guard with
  | none => simp [cins, hg, wantV] at h; simp [h]
  | some g =>
    obtain ⟨j, want⟩ := g
    simp only [cins, hg, Option.map_some, wantV] at h
    cases hd : (all[j]?).bind (·.dst) with
    | none =>
      simp only [hd, VX.ev] at h
      simp only [Option.some.injEq] at h
      subst h
      simp [yielded, hd]
    | some d =>
      simp only [hd] at h
      by_cases hdn : d < F.n
      · simp only [if_pos hdn, VX.ev] at h
        have hr := hs.slot d hdn
        have hget : a.tmps[d]? = some (a.tmps.getD d undef) := by
          rw [Array.getD_eq_getD_getElem?, Array.getElem?_eq_getElem (by rw [hs.size]; exact hdn)]; rfl
        simp only [yielded, hd, Option.bind_some, hget]
        split at h
        · rename_i c hc
          rw [hc] at hr
          simp only [Rep] at hr
          rw [hr]
          simp only [Option.some.injEq] at h
          rw [← h]
          rfl
        · rename_i hc
          rw [hc] at hr
          simp only [Rep, RepAll] at hr
          obtain ⟨vals, hv, rfl⟩ := hr
          rw [hv]
          simp only [Option.some.injEq] at h
          rw [← h]
          rfl
        · rename_i hc
          rw [hc] at hr
          simp only [Rep] at hr
          rw [hr]
          simp only [Option.some.injEq] at h
          rw [← h]
          rfl
        · cases h
      · simp only [if_neg hdn, VX.ev] at h
        simp only [Option.some.injEq] at h
        have hle : a.tmps.size ≤ d := by rw [hs.size]; exact Nat.le_of_not_lt hdn
        have : a.tmps[d]? = none := Array.getElem?_eq_none hle
        simp [yielded, hd, this, ← h]
def St.put (st : St) (d : Option Nat) (v : V) : St := ⟨putO st.s d v, st.σ⟩
theorem Runs.insIn {i : VIns} {l : List VIns} (hw : wantV st.s i.g = some true)
    (h : ∀ (F : Fr), F.n = n → ∀ (μ : Mu) (a : Act) (w : World) (o : Oper) (all : Array Oper), cins P n all o = i → SatM F μ st a w →
      ∀ (next : Act → World → Prop) (Q' : Exit → Act → World → Prop), (∀ st' a' w', SatF F st' a' w' → Runs P n (.ops l :: k) st' Q → next a' w') → o.wpIn F.fence 0 P a w next Q') :
    Runs P n (.ops (i :: l) :: k) st Q := by
  intro F hn kt hk a w hs
  obtain ⟨z, kt', rfl, hy, hk'⟩ := kt_cons hk
  cases z <;> simp only [KI.it, It.ops.injEq, reduceCtorEq] at hy
  rename_i all os
  cases os with
  | nil => simp at hy
  | cons o os =>
    simp only [List.map_cons, List.cons.injEq] at hy
    obtain ⟨hi, hl⟩ := hy
    obtain ⟨μ, hs'⟩ := hs
    have hwant := want_of (P := P) hs' all o (b := true) (by rw [hn, hi]; exact hw)
    simp only [Kont, wpListIn, hwant, if_true]
    refine h F hn μ a w o all hi hs' _ _ ?_
    intro st' a' w' hs'' hsem
    exact hsem F hn (.ops all os :: kt') (by simp [KI.it, hl, hk']) a' w' hs''
theorem Runs.ins {i : VIns} {l : List VIns} (hb : i.op ≠ .bad) (hw : wantV st.s i.g = some true)
    (h : ∀ (F : Fr), F.n = n → ∀ (μ : Mu) (a : Act) (w : World) (o : Oper) (all : Array Oper), cins P n all o = i → SatM F μ st a w →
      ∀ (next : Act → World → Prop) (Q' : Exit → Act → World → Prop), (∀ st' a' w', SatF F st' a' w' → Runs P n (.ops l :: k) st' Q → next a' w') → o.wp P a w next Q') :
    Runs P n (.ops (i :: l) :: k) st Q := by
  refine Runs.insIn hw fun F hn μ a w o all hi hs next Q' hnext => opIn ?_ (h F hn μ a w o all hi hs next Q' hnext)
  refine cop_defer (P := P) (n := n) ?_
  have : i.op = cop P n o.op := by rw [← hi]; rfl
  rw [← this]; exact hb
theorem Runs.skipIns {i : VIns} {l : List VIns} (hw : wantV st.s i.g = some false) (h : Runs P n (.ops l :: k) (st.put i.dst (.tup [])) Q) : Runs P n (.ops (i :: l) :: k) st Q := by
  intro F hn kt hk a w hs
  obtain ⟨z, kt', rfl, hy, hk'⟩ := kt_cons hk
  cases z <;> simp only [KI.it, It.ops.injEq, reduceCtorEq] at hy
  rename_i all os
  cases os with
  | nil => simp at hy
  | cons o os =>
    simp only [List.map_cons, List.cons.injEq] at hy
    obtain ⟨hi, hl⟩ := hy
    obtain ⟨μ, hs'⟩ := hs
    have hwant := want_of (P := P) hs' all o (b := false) (by rw [hn, hi]; exact hw)
    simp only [Kont, wpListIn, hwant, Bool.false_eq_true, if_false]
    refine ⟨fun _ _ => trivial, ?_⟩
    refine h F hn (.ops all os :: kt') (by simp [KI.it, hl, hk']) _ w ⟨μ, ?_⟩
    have hd : i.dst = o.dst.filter (· < F.n) := by rw [← hi, hn]; rfl
    rw [St.put, hd]
    exact hs'.pure (by simp only [Rep]; exact ⟨[], rfl, by simp [RepAll]⟩)
theorem Runs.pure {i : VIns} {l : List VIns} {v : V} (hw : wantV st.s i.g = some true) (hp : vpre st.s i.op) (hv : vpure st.σ st.s i.op = some v)
    (h : Runs P n (.ops l :: k) (st.put i.dst v) Q) : Runs P n (.ops (i :: l) :: k) st Q := by
  refine Runs.ins (fun e => by rw [e] at hv; simp [vpure] at hv) hw fun F hn μ a w o all hi hs next Q' hnext => ?_
  subst hn
  have hop : i.op = cop P F.n o.op := by rw [← hi]; rfl
  have hd : i.dst = o.dst.filter (· < F.n) := by rw [← hi]; rfl
  obtain ⟨z, hz, hr⟩ := vpure_sound hs o (hop ▸ hp) (hop ▸ hv)
  unfold Oper.wp
  rw [hz]
  refine hnext (st.put i.dst v) _ _ ⟨μ, ?_⟩ h
  rw [St.put, hd]
  exact hs.pure hr
end Go.Vc
namespace Go.Vc
variable {P : Program} {n : Nat} {st : St} {Q : St → Prop} {k : List It}
theorem opIn_mono {F : Fr} {o : Oper} {a : Act} {w : World} {next next' : Act → World → Prop} {R R' : Exit → Act → World → Prop} (h : o.wpIn F.fence 0 P a w next R)
    (hn : ∀ a w, next a w → next' a w) (hq : ∀ e a w, e ≠ .normal → R e a w → R' e a w) : o.wpIn F.fence 0 P a w next' R' := by
  refine ⟨h.1, ?_⟩
  have h := h.2
  generalize (o.semAt F.fence.round a.eval).run P w = r at *
  cases r with
  | ok x w' =>
    cases x <;> simp only [Oper.uponIn] at h ⊢ <;> first
      | exact hn _ _ h
      | exact ⟨h.1, CallsIn.mono h.2 (fun e w'' he => by cases e <;> first | exact hn _ _ he | exact hq _ _ _ (by simp) he | (obtain ⟨a0, w0, h2⟩ := he; exact ⟨a0, w0, hq _ _ _ (by simp) h2⟩))⟩
      | exact ⟨h.1, RowsIn.mono h.2 (fun _ _ he => hn _ _ he)⟩
      | exact ⟨h.1, RoundIn.mono h.2 (fun e w'' he => by cases e <;> first | exact hn _ _ he | exact hq _ _ _ (by simp) he | (obtain ⟨a0, w0, h2⟩ := he; exact ⟨a0, w0, hq _ _ _ (by simp) h2⟩))⟩
      | contradiction
  | halt x w' => cases x <;> simp only [Oper.uponIn] at h ⊢ <;> first | exact hq _ _ _ (by simp) h | contradiction
theorem listIn_mono {F : Fr} {all : Array Oper} {R R' : Exit → Act → World → Prop} (hq : ∀ e a w, R e a w → R' e a w) : ∀ (l : List Oper) (a : Act) (w : World), wpListIn F.fence 0 P all R l a w → wpListIn F.fence 0 P all R' l a w
  | [], a, w, h => hq _ _ _ h
  | o :: l, a, w, h => by
    simp only [wpListIn] at h ⊢
    split
    · rename_i hw
      simp only [hw, if_true] at h
      exact opIn_mono h (listIn_mono hq l) (fun e a w _ => hq e a w)
    · rename_i hw
      simp only [hw] at h
      exact ⟨h.1, listIn_mono hq l _ _ h.2⟩
theorem Runs.mono {todo : List It} {Q' : St → Prop} (h : Runs P n todo st Q) (hq : ∀ st, Q st → Q' st) : Runs P n todo st Q' := by
  intro F hn kt hk a w hs
  have key : ∀ (kt : List KI) e a w, Kont P F Q kt e a w → Kont P F Q' kt e a w := by
    intro kt
    induction kt with
    | nil => intro e a w ⟨h1, st, h2, h3⟩; exact ⟨h1, st, hq st h2, h3⟩
    | cons y kt ih =>
      intro e a w h
      cases y with
      | code c => cases e <;> first | exact wpIn_mono h ih | exact ih _ _ _ h
      | inBlock id =>
        cases e <;> simp only [Kont, Exit.inBlock] at h ⊢ <;> (try split at h) <;> (try split) <;> first | exact ih _ _ _ h | contradiction
      | stop I => cases e <;> first | exact h | exact ih _ _ _ h
      | ops all l => cases e <;> first | exact listIn_mono ih l a w h | exact ih _ _ _ h
  exact key kt _ a w (h F hn kt hk a w hs)
def Wk (σ σ' : Store) (v v' : V) : Prop := ∀ (μ : Mu) (w0 w : World) (ow0 : Nat → Prop) (x : Value), Sat w0 ow0 μ σ w → Rep μ (Owned μ σ) w v x → Rep μ (Owned μ σ') w v' x
theorem Wk.refl {σ σ' : Store} (h : SubStore σ' σ) (v : V) : Wk σ σ' v v := fun μ _ w _ x _ hr => Rep.mono (MuLe.refl μ) (Keeps.sub w h) (Nat.le_refl _) v x hr
theorem Wk.undef {σ σ' : Store} (v : V) : Wk σ σ' v .undef := fun _ _ _ _ _ _ _ => by simp [Rep]
theorem Wk.own {σ σ' : Store} (h : SubStore σ' σ) {id off len : Nat} {ob : Ob} (ho : σ id = some ob) (hid : σ' id = none) (hl : off + len ≤ ob.rows.length) :
    Wk σ σ' (.own id off len) (.sl ob.sz ((ob.rows.drop off).take len)) := by
  intro μ w0 w ow0 x hs hr
  simp only [Rep] at hr ⊢
  have hlen : ((ob.rows.drop off).take len).length = len := by simp; omega
  have hob := hs.obj id ob ho
  split at hr
  · exact hr.elim
  · obtain ⟨rfl, rfl, rfl⟩ := hr
    exact ⟨none, 0, by simp, by simp, .inl (by simp)⟩
  · rename_i b sz cap hb
    obtain ⟨o, c, rfl, h1, h2, h3, hz⟩ := hr
    refine ⟨_, c, by rw [hlen], by omega, ?_⟩
    by_cases h0 : len = 0
    · left; subst h0; simp
    · right
      rw [hb] at hob
      obtain ⟨g1, g2, g3, g4, g5⟩ := hob.rows hz
      have ho' : o = off * sz := by
        rcases h3 with h3 | h3
        · exact h3
        · omega
      subst ho' g1
      refine ⟨b, _, rfl, ?_, g2, ?_⟩
      · rintro ⟨id', ob', sz', cap', e1, e2⟩
        have := hs.inj id' id ob' ob _ _ _ _ _ (h _ _ e1) ho e2 hb
        rw [this, hid] at e1
        cases e1
      · have := (g5.drop off).take len
        rw [Nat.zero_add] at this
        exact RepRows.mono (MuLe.refl μ) (Keeps.sub w h) (Nat.le_refl _) _ _ _ _ rfl this
def WkL (σ σ' : Store) : List V → List V → Prop
  | [], [] => True
  | v :: vs, v' :: vs' => Wk σ σ' v v' ∧ WkL σ σ' vs vs'
  | _, _ => False
theorem WkL.all {σ σ' : Store} {μ : Mu} {w0 w : World} {ow0 : Nat → Prop} (hs : Sat w0 ow0 μ σ w) : ∀ {vs vs' : List V} {l : List Value}, WkL σ σ' vs vs' →
    RepAll μ (Owned μ σ) w vs l → RepAll μ (Owned μ σ') w vs' l
  | [], [], _, _, h => by simpa [RepAll] using h
  | v :: vs, v' :: vs', l, hw, h => by
    simp only [RepAll] at h ⊢
    obtain ⟨x, xs, rfl, h1, h2⟩ := h
    exact ⟨x, xs, rfl, hw.1 μ w0 w ow0 x hs h1, WkL.all hs hw.2 h2⟩
  | [], _ :: _, _, hw, _ => hw.elim
  | _ :: _, [], _, hw, _ => hw.elim
theorem WkL.refl {σ σ' : Store} (h : SubStore σ' σ) : ∀ (vs : List V), WkL σ σ' vs vs
  | [] => trivial
  | v :: vs => ⟨Wk.refl h v, WkL.refl h vs⟩
theorem Wk.agg {σ σ' : Store} {vs vs' : List V} (h : WkL σ σ' vs vs') : Wk σ σ' (.agg vs) (.agg vs') := by
  intro μ w0 w ow0 x hs hr
  simp only [Rep] at hr ⊢
  obtain ⟨vals, rfl, h1, h2⟩ := hr
  exact ⟨vals, rfl, WkL.all hs h h1, h2⟩
theorem Wk.tup {σ σ' : Store} {vs vs' : List V} (h : WkL σ σ' vs vs') : Wk σ σ' (.tup vs) (.tup vs') := by
  intro μ w0 w ow0 x hs hr
  simp only [Rep] at hr ⊢
  obtain ⟨vals, rfl, h1⟩ := hr
  exact ⟨vals, rfl, WkL.all hs h h1⟩
def Weak (st st' : St) : Prop := SubStore st'.σ st.σ ∧ ∀ i, Wk st.σ st'.σ (st.s i) (st'.s i)
theorem Weak.sat {st st' : St} (h : Weak st st') {F : Fr} {a : Act} {w : World} (hs : SatF F st a w) : SatF F st' a w := by
  obtain ⟨μ, hs⟩ := hs
  exact ⟨μ, hs.sat.drop h.1, hs.le, hs.size, hs.book.keep (Keeps.sub w h.1), fun i hi => h.2 i μ _ _ _ _ hs.sat (hs.slot i hi)⟩
theorem Runs.weaken {todo : List It} {st' : St} (h : Weak st st') (hr : Runs P n todo st' Q) : Runs P n todo st Q :=
  fun F hn kt hk a w hs => hr F hn kt hk a w (h.sat hs)
theorem wpIn_loop_nat {F : Fence} {m0 : Nat} {c : Code} {Q' : Exit → Act → World → Prop} (I : Nat → Act → World → Prop)
    (round : ∀ m a w, I m a w → c.wpIn F m0 P (Exit.then (fun a' w' => ∃ m', m' < m ∧ I m' a' w') Q') a w) : ∀ m a w, I m a w → (Code.loop c).wpIn F m0 P Q' a w := by
  intro m a w h b k cs hro hb hr
  have key : ∀ m a w, I m a w → ∃ e a' w', Q' e a' w' ∧ ArrivesIn (Machine.fenced P F) P (lone (b.atR a (.code c :: .inLoop c :: k)) cs w) b k cs e a' w' := by
    intro m
    induction m using Nat.strongRecOn with
    | _ m ih =>
      intro a w hI
      obtain ⟨e, a₁, w₁, hq, harr⟩ := round m a w hI b (.inLoop c :: k) cs hro hb hr
      cases e with
      | normal =>
        obtain ⟨m', hlt, hI'⟩ := hq
        obtain ⟨e₂, a₂, w₂, hq₂, harr₂⟩ := ih m' hlt a₁ w₁ hI'
        exact ⟨e₂, a₂, w₂, hq₂, .of_steps (StepsIn.trans harr (.one (fenced_calm hb hr rfl) stepR_inLoop)) harr₂⟩
      | exit id => exact ⟨_, a₁, w₁, hq, .pass (x := .inLoop c) rfl (fun _ _ => .inl (by simp)) harr⟩
      | goto l => exact ⟨_, a₁, w₁, hq, .pass (x := .inLoop c) rfl (fun _ _ => .inl (by simp)) harr⟩
      | ret => exact ⟨_, a₁, w₁, hq, .pass (x := .inLoop c) rfl (fun _ _ => .inl (by simp)) harr⟩
      | panic ch => exact ⟨_, a₁, w₁, hq, .pass (x := .inLoop c) rfl (fun _ _ => .inl (by simp)) harr⟩
      | outgrown => exact ⟨_, a₁, w₁, hq, .pass (x := .inLoop c) rfl (fun _ _ => .inl (by simp)) harr⟩
  obtain ⟨e, a', w', hq, harr⟩ := key m a w h
  exact ⟨e, a', w', hq, .of_steps (.one (fenced_calm hb hr rfl) stepR_loop) harr⟩
theorem Runs.loop {x : VCode} (I : Nat → St → Prop) (m : Nat) (h0 : I m st) (hr : ∀ m st, I m st → Runs P n (.code x :: .stop (fun st' => ∃ m', m' < m ∧ I m' st') :: k) st Q) :
    Runs P n (.code (.loop x) :: k) st Q := by
  intro F hn kt hk a w hs
  obtain ⟨z, kt', rfl, hy, hk'⟩ := kt_cons hk
  obtain ⟨c0, rfl, hc⟩ := it_code hy
  have hc0 : ∃ x0, c0 = .loop x0 ∧ ccode P n x0 = x := by
    cases c0 <;> simp only [ccode, reduceCtorEq, VCode.loop.injEq] at hc
    case region => (split at hc; cases hc); split at hc <;> cases hc
    exact ⟨_, rfl, hc⟩
  obtain ⟨x0, rfl, rfl⟩ := hc0
  refine wpIn_loop_nat (fun m a w => ∃ st, I m st ∧ SatF F st a w) ?_ m a w ⟨st, h0, hs⟩
  rintro m a w ⟨st, hi, hs⟩
  refine wpIn_mono (hr m st hi F hn (.code x0 :: .stop (fun st' => ∃ m', m' < m ∧ I m' st') :: kt') (by simp [KI.it, hk']) a w hs) ?_
  intro e a' w' h
  cases e
  case normal => obtain ⟨st', ⟨m', hlt, hi'⟩, hs'⟩ := h; exact ⟨m', hlt, st', hi', hs'⟩
  all_goals exact h
end Go.Vc
namespace Go.Vc
variable {P : Program} {n : Nat} {st : St} {Q : St → Prop} {k : List It}
theorem cop_alloc {o : Op} {e sz : Nat} {z : V} (h : cop P n o = .alloc e sz z) : ∃ i zv, o = .alloc e ∧ zeroOf P e = some (i, zv) ∧ i.size = sz ∧ ofValue zv = z := by
  cases o
  case alloc t =>
    simp only [cop, nilB] at h
    split at h
    · rename_i i zv hz
      simp only [VOp.alloc.injEq] at h
      obtain ⟨rfl, h2, h3⟩ := h
      exact ⟨i, zv, rfl, hz, h2, h3⟩
    · (repeat' split at h) <;> cases h
  case call c =>
    obtain ⟨callee, args, argTypes⟩ := c
    cases callee
    case builtin b => cases b <;> simp only [cop, nilB] at h <;> (repeat' split at h) <;> cases h
    all_goals (simp only [cop, nilB] at h; cases h)
  case unOp op t x => cases op <;> simp only [cop, nilB] at h <;> cases h
  case makeFunc f a b => cases f <;> simp only [cop, nilB] at h <;> (repeat' split at h) <;> cases h
  all_goals (simp only [cop, nilB] at h; (repeat' split at h) <;> cases h)
theorem cop_store {o : Op} {sz : Nat} {xa xv : VX} (h : cop P n o = .store sz xa xv) : ∃ t x y, o = .store t x y ∧ knownT P t = true ∧ P.cellsOf t = sz ∧ cx n x = xa ∧ cx n y = xv := by
  cases o
  case store t x y =>
    simp only [cop, nilB] at h
    split at h
    · rename_i hk
      simp only [VOp.store.injEq] at h
      exact ⟨t, x, y, rfl, hk, h.1, h.2.1, h.2.2⟩
    · (repeat' split at h) <;> cases h
  case call c =>
    obtain ⟨callee, args, argTypes⟩ := c
    cases callee
    case builtin b => cases b <;> simp only [cop, nilB] at h <;> (repeat' split at h) <;> cases h
    all_goals (simp only [cop, nilB] at h; cases h)
  case unOp op t x => cases op <;> simp only [cop, nilB] at h <;> cases h
  case makeFunc f a b => cases f <;> simp only [cop, nilB] at h <;> (repeat' split at h) <;> cases h
  all_goals (simp only [cop, nilB] at h; (repeat' split at h) <;> cases h)
theorem cop_bslice {o : Op} {e sz : Nat} {xs : List VX} (h : cop P n o = .bslice e sz xs) : ∃ t len parts i z, o = .buildSlice t len parts ∧ P.underlying t = some (.slice e) ∧ zeroOf P e = some (i, z) ∧
    i.size = sz ∧ parts.toList.map (·.1) = List.range len ∧ len * i.size ≤ 16777216 ∧ parts.toList.map (fun p => cx n p.2) = xs := by
  cases o
  case buildSlice t len parts =>
    simp only [cop, nilB] at h
    split at h
    · rename_i e' he
      split at h
      · rename_i i z hz
        split at h
        · rename_i hc
          simp only [VOp.bslice.injEq] at h
          obtain ⟨rfl, h2, h3⟩ := h
          exact ⟨t, len, parts, i, z, rfl, he, hz, h2, hc.1, hc.2, h3⟩
        · cases h
      · cases h
    · cases h
  case call c =>
    obtain ⟨callee, args, argTypes⟩ := c
    cases callee
    case builtin b => cases b <;> simp only [cop, nilB] at h <;> (repeat' split at h) <;> cases h
    all_goals (simp only [cop, nilB] at h; cases h)
  case unOp op t x => cases op <;> simp only [cop, nilB] at h <;> cases h
  case makeFunc f a b => cases f <;> simp only [cop, nilB] at h <;> (repeat' split at h) <;> cases h
  all_goals (simp only [cop, nilB] at h; (repeat' split at h) <;> cases h)
theorem cop_mk {o : Op} {e sz bytes : Nat} {zv : V} {xn : VX} (h : cop P n o = .mk e sz bytes zv xn) : ∃ t l c i z, o = .makeSlice t l c ∧ P.underlying t = some (.slice e) ∧ zeroOf P e = some (i, z) ∧
    i.size = sz ∧ i.bytes = bytes ∧ ofValue z = zv ∧ sameOpd l c = true ∧ cx n l = xn := by
  cases o
  case makeSlice t l c =>
    simp only [cop, nilB] at h
    split at h
    · rename_i e' he
      split at h
      · rename_i i z hz
        split at h
        · rename_i hc
          simp only [VOp.mk.injEq] at h
          obtain ⟨rfl, h2, h3, h4, h5⟩ := h
          exact ⟨t, l, c, i, z, rfl, he, hz, h2, h3, h4, hc, h5⟩
        · cases h
      · cases h
    · cases h
  case call c =>
    obtain ⟨callee, args, argTypes⟩ := c
    cases callee
    case builtin b => cases b <;> simp only [cop, nilB] at h <;> (repeat' split at h) <;> cases h
    all_goals (simp only [cop, nilB] at h; cases h)
  case unOp op t x => cases op <;> simp only [cop, nilB] at h <;> cases h
  case makeFunc f a b => cases f <;> simp only [cop, nilB] at h <;> (repeat' split at h) <;> cases h
  all_goals (simp only [cop, nilB] at h; (repeat' split at h) <;> cases h)
theorem cop_appz {o : Op} {e sz bytes : Nat} {zv : V} {xa xb : VX} (h : cop P n o = .appz e sz bytes zv xa xb) : ∃ t tn kn x y args argTypes i z, o = .call { callee := .builtin .append, args := args, argTypes := argTypes } ∧
    args = #[x, y] ∧ argTypes = #[t, tn] ∧ P.underlying t = some (.slice e) ∧ P.underlying tn = some (.int kn) ∧ zeroOf P e = some (i, z) ∧ i.size = sz ∧ i.bytes = bytes ∧ ofValue z = zv ∧ cx n x = xa ∧ cx n y = xb := by
  cases o
  case call c =>
    obtain ⟨callee, args, argTypes⟩ := c
    cases callee
    case value => simp [cop] at h
    case invoke => simp [cop] at h
    case builtin b =>
      cases b
      case append =>
        simp only [cop, nilB] at h
        split at h
        · rename_i x y t t' h1 h2
          split at h
          · split at h
            · split at h <;> cases h
            · cases h
          · split at h
            · rename_i e' kn he hn
              split at h
              · rename_i i z hz
                simp only [VOp.appz.injEq] at h
                obtain ⟨rfl, h4, h5, h6, h7, h8⟩ := h
                exact ⟨t, t', kn, x, y, args, argTypes, i, z, rfl, by apply Array.ext'; simpa using h1, by apply Array.ext'; simpa using h2, he, hn, hz, h4, h5, h6, h7, h8⟩
              · cases h
            · split at h <;> cases h
            · cases h
        · cases h
      all_goals (simp only [cop, nilB] at h; (repeat' split at h) <;> cases h)
  case unOp op t x => cases op <;> simp only [cop, nilB] at h <;> cases h
  case makeFunc f a b => cases f <;> simp only [cop, nilB] at h <;> (repeat' split at h) <;> cases h
  all_goals (simp only [cop, nilB] at h; (repeat' split at h) <;> cases h)
theorem cop_append {o : Op} {e sz bytes : Nat} {xa xb : VX} (h : cop P n o = .append e sz bytes xa xb) : ∃ t t' x y args argTypes i z, o = .call { callee := .builtin .append, args := args, argTypes := argTypes } ∧
    args = #[x, y] ∧ argTypes = #[t, t'] ∧ (t' = t ∨ P.underlying t' = some .string) ∧ P.underlying t = some (.slice e) ∧ zeroOf P e = some (i, z) ∧ i.size = sz ∧ i.bytes = bytes ∧ cx n x = xa ∧ cx n y = xb := by
  cases o
  case call c =>
    obtain ⟨callee, args, argTypes⟩ := c
    cases callee
    case value => simp [cop] at h
    case invoke => simp [cop] at h
    case builtin b =>
      cases b
      case append =>
        simp only [cop, nilB] at h
        split at h
        · rename_i x y t t' h1 h2
          split at h
          · rename_i htt
            subst htt
            split at h
            · rename_i e' he
              split at h
              · rename_i i z hz
                simp only [VOp.append.injEq] at h
                obtain ⟨rfl, h4, h5, h6, h7⟩ := h
                exact ⟨t, t, x, y, args, argTypes, i, z, rfl, by apply Array.ext'; simpa using h1, by apply Array.ext'; simpa using h2, .inl rfl, he, hz, h4, h5, h6, h7⟩
              · cases h
            · cases h
          · split at h
            · split at h <;> cases h
            · rename_i e' he hn
              split at h
              · rename_i i z hz
                simp only [VOp.append.injEq] at h
                obtain ⟨rfl, h4, h5, h6, h7⟩ := h
                exact ⟨t, t', x, y, args, argTypes, i, z, rfl, by apply Array.ext'; simpa using h1, by apply Array.ext'; simpa using h2, .inr hn, he, hz, h4, h5, h6, h7⟩
              · cases h
            · cases h
        · cases h
      all_goals (simp only [cop, nilB] at h; (repeat' split at h) <;> cases h)
  case unOp op t x => cases op <;> simp only [cop, nilB] at h <;> cases h
  case makeFunc f a b => cases f <;> simp only [cop, nilB] at h <;> (repeat' split at h) <;> cases h
  all_goals (simp only [cop, nilB] at h; (repeat' split at h) <;> cases h)
set_option maxHeartbeats 1000000 in
theorem cop_call {o : Op} {f : VX} {xs : List VX} (h : cop P n o = .call f xs) : ∃ f0 args argTypes, o = .call { callee := .value f0, args := args, argTypes := argTypes } ∧ cx n f0 = f ∧ args.toList.map (cx n) = xs := by
  cases o
  case call c =>
    obtain ⟨callee, args, argTypes⟩ := c
    cases callee
    case value f0 => simp only [cop, VOp.call.injEq] at h; exact ⟨f0, args, argTypes, rfl, h.1, h.2⟩
    case invoke => simp [cop] at h
    case builtin b => cases b <;> simp only [cop, nilB] at h <;> (repeat' split at h) <;> cases h
  case unOp op t x => cases op <;> simp only [cop, nilB] at h <;> cases h
  case makeFunc f a b => cases f <;> simp only [cop, nilB] at h <;> (repeat' split at h) <;> cases h
  all_goals (simp only [cop, nilB] at h; (repeat' split at h) <;> cases h)
theorem cop_box {o : Op} {e sz : Nat} {xv : VX} (h : cop P n o = .box e sz xv) : ∃ x, o = .box e x ∧ knownT P e = true ∧ P.cellsOf e = sz ∧ cx n x = xv := by
  cases o
  case box t x =>
    simp only [cop, nilB] at h
    split at h
    · rename_i hk
      simp only [VOp.box.injEq] at h
      obtain ⟨rfl, h2, h3⟩ := h
      exact ⟨x, rfl, hk, h2, h3⟩
    · cases h
  case call c =>
    obtain ⟨callee, args, argTypes⟩ := c
    cases callee
    case builtin b => cases b <;> simp only [cop, nilB] at h <;> (repeat' split at h) <;> cases h
    all_goals (simp only [cop, nilB] at h; cases h)
  case unOp op t x => cases op <;> simp only [cop, nilB] at h <;> cases h
  case makeFunc f a b => cases f <;> simp only [cop, nilB] at h <;> (repeat' split at h) <;> cases h
  all_goals (simp only [cop, nilB] at h; (repeat' split at h) <;> cases h)
theorem cop_clear {o : Op} {sz : Nat} {z : V} {xv : VX} (h : cop P n o = .clear sz z xv) : ∃ x t e args argTypes i zv, o = .call { callee := .builtin .clear, args := args, argTypes := argTypes } ∧
    args = #[x] ∧ argTypes[0]? = some t ∧ P.underlying t = some (.slice e) ∧ zeroOf P e = some (i, zv) ∧ i.size = sz ∧ ofValue zv = z ∧ cx n x = xv := by
  cases o
  case call c =>
    obtain ⟨callee, args, argTypes⟩ := c
    cases callee
    case builtin b =>
      cases b
      case clear =>
        simp only [cop, nilB] at h
        split at h
        · rename_i x t h1 h2
          split at h
          · rename_i e he
            split at h
            · rename_i i zv hz
              simp only [VOp.clear.injEq] at h
              exact ⟨x, t, e, args, argTypes, i, zv, rfl, by apply Array.ext'; simpa using h1, h2, he, hz, h.1, h.2.1, h.2.2⟩
            · cases h
          · cases h
        · cases h
      all_goals (simp only [cop, nilB] at h; (repeat' split at h) <;> cases h)
    all_goals (simp only [cop, nilB] at h; cases h)
  case unOp op t x => cases op <;> simp only [cop, nilB] at h <;> cases h
  case makeFunc f a b => cases f <;> simp only [cop, nilB] at h <;> (repeat' split at h) <;> cases h
  all_goals (simp only [cop, nilB] at h; (repeat' split at h) <;> cases h)
theorem box_sound {F : Fr} {μ : Mu} {a : Act} {w : World} (hs : SatM F μ st a w) {o : Oper} {t : TypeId} {x : Operand} (hoo : o.op = .box t x) (hk : knownT P t = true)
    (hx : ((cx F.n x).ev st.s).cells.length = P.cellsOf t) (hst : ((cx F.n x).ev st.s).stays = true) :
    ∃ id, st.σ id = none ∧ ∃ y w' μ', (execOp a.eval o).run P w = .ok (.value y) w' ∧
      SatM F μ' ⟨putO st.s (o.dst.filter (· < F.n)) (.ptr id 0 0), upd st.σ id ⟨t, P.cellsOf t, [(cx F.n x).ev st.s]⟩⟩ (a.put o.dst y) w' := by
  have hpos := (knownT_iff hk).2.2
  obtain ⟨g1, g2⟩ := (rep_cx hs x).cells hst
  have hl := (rep_cx hs x).cells_length hst
  obtain ⟨id, hid, μ', h1, h2, h3, h4⟩ := hs.sat.renew (row := none) (World.grownBy_alloc w (.cells (a.eval x).cells t) none) none (.inl rfl) w.heap.size (P.cellsOf t) 1 (a.eval x).cells t [(cx F.n x).ev st.s] (a.eval x).cells.toList (.inr (Nat.le_refl _))
    (heap_alloc_new w _) hpos (by omega) (by simp) (by simp [maxLen]) (by intro r hr; simp at hr; subst hr; exact hx)
    (by simp only [flat, List.flatMap_cons, List.flatMap_nil, List.append_nil]; exact g1) g2 (by intro j u hu; simpa using hu)
  refine ⟨id, hid, .pointer (some ⟨w.heap.size, 0, none⟩), w.alloc (.cells (a.eval x).cells t), μ', ?_, hs.step h3 h2 h4 (by simp) (by simp [Rep, h1]; exact hpos)⟩
  unfold execOp
  rw [hoo]
  simp [Instr.box, newVar, newRow]
theorem cins_op {all : Array Oper} {o : Oper} {i : VIns} (h : cins P n all o = i) : cop P n o.op = i.op ∧ o.dst.filter (· < n) = i.dst := by rw [← h]; exact ⟨rfl, rfl⟩
theorem Runs.alloc {i : VIns} {l : List VIns} {e sz : Nat} {z : V} (hw : wantV st.s i.g = some true) (ho : i.op = .alloc e sz z)
    (h : ∀ id, st.σ id = none → Runs P n (.ops l :: k) ⟨putO st.s i.dst (.ptr id 0 0), upd st.σ id ⟨e, sz, [z]⟩⟩ Q) : Runs P n (.ops (i :: l) :: k) st Q := by
  refine Runs.ins (by rw [ho]; simp) hw fun F hn μ a w o all hi hs next Q' hnext => ?_
  subst hn
  obtain ⟨hop, hd⟩ := cins_op hi
  rw [ho] at hop
  obtain ⟨ti, zv, h1, h2, rfl, rfl⟩ := cop_alloc hop
  obtain ⟨id, hid, x, w', μ', hx, hs'⟩ := alloc_sound hs h1 h2
  unfold Oper.wp
  rw [hx]
  refine hnext _ _ _ ⟨μ', ?_⟩ (h id hid)
  rw [← hd]
  exact hs'
theorem Runs.box {i : VIns} {l : List VIns} {e sz : Nat} {xv : VX} (hw : wantV st.s i.g = some true) (ho : i.op = .box e sz xv)
    (hx : (xv.ev st.s).cells.length = sz) (hst : (xv.ev st.s).stays = true)
    (h : ∀ id, st.σ id = none → Runs P n (.ops l :: k) ⟨putO st.s i.dst (.ptr id 0 0), upd st.σ id ⟨e, sz, [xv.ev st.s]⟩⟩ Q) : Runs P n (.ops (i :: l) :: k) st Q := by
  refine Runs.ins (by rw [ho]; simp) hw fun F hn μ a w o all hi hs next Q' hnext => ?_
  subst hn
  obtain ⟨hop, hd⟩ := cins_op hi
  rw [ho] at hop
  obtain ⟨x, h1, h2, rfl, rfl⟩ := cop_box hop
  obtain ⟨id, hid, y, w', μ', hy, hs'⟩ := box_sound hs h1 h2 hx hst
  unfold Oper.wp
  rw [hy]
  refine hnext _ _ _ ⟨μ', ?_⟩ (h id hid)
  rw [← hd]
  exact hs'
theorem Runs.store {i : VIns} {l : List VIns} {sz : Nat} {xa xv : VX} (hw : wantV st.s i.g = some true) (ho : i.op = .store sz xa xv)
    {id r0 c : Nat} (h1 : xa.ev st.s = .ptr id r0 c) {ob : Ob} (h2 : st.σ id = some ob) {r r' : V} (h3 : ob.rows[r0]? = some r) (h4 : setRowV r c sz (xv.ev st.s) = some r')
    (h : Runs P n (.ops l :: k) ⟨putO st.s i.dst (.tup []), upd st.σ id { ob with rows := ob.rows.set r0 r' }⟩ Q) : Runs P n (.ops (i :: l) :: k) st Q := by
  refine Runs.ins (by rw [ho]; simp) hw fun F hn μ a w o all hi hs next Q' hnext => ?_
  subst hn
  obtain ⟨hop, hd⟩ := cins_op hi
  rw [ho] at hop
  obtain ⟨t, x, y, g1, g2, rfl, rfl, rfl⟩ := cop_store hop
  obtain ⟨w', hx, hs'⟩ := store_sound hs g1 g2 h1 h2 h3 h4
  unfold Oper.wp
  rw [hx]
  refine hnext _ _ _ ⟨μ, ?_⟩ h
  rw [← hd]
  exact hs'
theorem Runs.mkS {i : VIns} {l : List VIns} {e sz bytes : Nat} {zv : V} {xn : VX} (hw : wantV st.s i.g = some true) (ho : i.op = .mk e sz bytes zv xn) {m : Int} (hm : xn.ev st.s = .int .i64 m)
    (h0 : 0 ≤ m) (hb : m.toNat * (bytes + 1) ≤ 140737488355328)
    (h : ∀ id, st.σ id = none → Runs P n (.ops l :: k) ⟨putO st.s i.dst (.own id 0 m.toNat), upd st.σ id ⟨e, sz, List.replicate m.toNat zv⟩⟩ Q) : Runs P n (.ops (i :: l) :: k) st Q := by
  refine Runs.ins (by rw [ho]; simp) hw fun F hn μ a w o all hi hs next Q' hnext => ?_
  subst hn
  obtain ⟨hop, hd⟩ := cins_op hi
  rw [ho] at hop
  obtain ⟨t, l', c, ti, z, h1, h2, h3, rfl, rfl, rfl, h5, rfl⟩ := cop_mk hop
  obtain ⟨id, hid, x, w', μ', hx', hs'⟩ := mk_sound hs h1 h5 h2 h3 hm h0 hb
  unfold Oper.wp
  rw [hx']
  refine hnext _ _ _ ⟨μ', ?_⟩ (h id hid)
  rw [← hd]
  exact hs'
theorem Runs.appzS {i : VIns} {l : List VIns} {e sz bytes : Nat} {zv : V} {xa xn : VX} (hw : wantV st.s i.g = some true) (ho : i.op = .appz e sz bytes zv xa xn) (hx : xa.ev st.s = .nils) {kq : IntKind} {m : Int} (hm : xn.ev st.s = .int kq m)
    (h0 : 0 < m) (hb : m.toNat * (bytes + 1) ≤ 140737488355328)
    (h : ∀ id, st.σ id = none → Runs P n (.ops l :: k) ⟨putO st.s i.dst (.own id 0 m.toNat), upd st.σ id ⟨e, sz, List.replicate m.toNat zv⟩⟩ Q) : Runs P n (.ops (i :: l) :: k) st Q := by
  refine Runs.ins (by rw [ho]; simp) hw fun F hn μ a w o all hi hs next Q' hnext => ?_
  subst hn
  obtain ⟨hop, hd⟩ := cins_op hi
  rw [ho] at hop
  obtain ⟨t, tn, kn, x, y, args, argTypes, ti, z, h1, h2, h3, h4, h5, h6, rfl, rfl, rfl, rfl, rfl⟩ := cop_appz hop
  obtain ⟨id, hid, x, w', μ', hx', hs'⟩ := appz_sound hs h1 h2 h3 h4 h5 h6 hx hm h0 hb
  unfold Oper.wp
  rw [hx']
  refine hnext _ _ _ ⟨μ', ?_⟩ (h id hid)
  rw [← hd]
  exact hs'
theorem Runs.bslice {i : VIns} {l : List VIns} {e sz : Nat} {xs : List VX} (hw : wantV st.s i.g = some true) (ho : i.op = .bslice e sz xs)
    (hx : ∀ x ∈ xs.map (·.ev st.s), x.cells.length = sz ∧ x.stays = true)
    (h : ∀ id, st.σ id = none → Runs P n (.ops l :: k) ⟨putO st.s i.dst (.own id 0 xs.length), upd st.σ id ⟨e, sz, xs.map (·.ev st.s)⟩⟩ Q) : Runs P n (.ops (i :: l) :: k) st Q := by
  refine Runs.ins (by rw [ho]; simp) hw fun F hn μ a w o all hi hs next Q' hnext => ?_
  subst hn
  obtain ⟨hop, hd⟩ := cins_op hi
  rw [ho] at hop
  obtain ⟨t, len, parts, ti, z, h1, h2, h3, rfl, h5, h6, rfl⟩ := cop_bslice hop
  rw [List.map_map] at hx
  obtain ⟨id, hid, x, w', μ', hx', hs'⟩ := bslice_sound hs h1 h2 h3 h5 h6 hx
  unfold Oper.wp
  rw [hx']
  refine hnext _ _ _ ⟨μ', ?_⟩ (h id hid)
  have hl : parts.size = len := by have := congrArg List.length h5; simpa using this
  simp only [List.length_map, List.map_map, Array.length_toList, hl, ← hd]
  exact hs'
theorem Runs.append {i : VIns} {l : List VIns} {e sz bytes : Nat} {xa xb : VX} (hw : wantV st.s i.g = some true) (ho : i.op = .append e sz bytes xa xb)
    {base src : List V} {idA : Option Nat} (h1 : dstRows st.σ e sz (xa.ev st.s) = some (base, idA)) (h2 : srcRows st.σ sz (xb.ev st.s) = some src)
    (hb : (base.length + src.length) * (bytes + 1) ≤ 140737488355328)
    (h : ∀ id, st.σ id = none → Runs P n (.ops l :: k) ⟨putO st.s i.dst (.own id 0 (base.length + src.length)), upd (delO st.σ idA) id ⟨e, sz, base ++ src⟩⟩ Q) :
    Runs P n (.ops (i :: l) :: k) st Q := by
  refine Runs.ins (by rw [ho]; simp) hw fun F hn μ a w o all hi hs next Q' hnext => ?_
  subst hn
  obtain ⟨hop, hd⟩ := cins_op hi
  rw [ho] at hop
  obtain ⟨t, t', x, y, args, argTypes, ti, z, g1, g2, g3, g3', g4, g5, rfl, rfl, rfl, rfl⟩ := cop_append hop
  obtain ⟨id, hid, r, w', μ', hx, hs'⟩ := append_sound hs g1 g2 g3 g3' g4 g5 h1 h2 hb
  unfold Oper.wp
  rw [hx]
  refine hnext _ _ _ ⟨μ', ?_⟩ (h id hid)
  rw [← hd]
  exact hs'
def callable (P : Program) (f : FuncId) : Bool := match P.funcs[f]? with
  | some fn => fn.name != "runtime.NumGoroutine" && fn.body.isSome
  | none => false
theorem run_callFunc {w : World} {f : FuncId} (h : callable P f = true) (args : Array Value) : (callFunc f args).run P w = .ok (.enter f args) w := by
  unfold callable at h
  split at h
  · rename_i fn hf
    simp only [Bool.and_eq_true, bne_iff_ne, ne_eq] at h
    cases hb : fn.body with
    | none => simp [hb] at h
    | some c => simp [callFunc, hf, h.1, hb]
  · cases h
def Contract (P : Program) (f : FuncId) (args : List V) (σ : Store) (Post : V → Store → Prop) : Prop := callable P f = true ∧ PCall P f args σ Post
theorem Contract.mono {f : FuncId} {args : List V} {σ : Store} {Post Post' : V → Store → Prop} (h : Contract P f args σ Post) (hp : ∀ r σ', Post r σ' → Post' r σ') :
    Contract P f args σ Post' := ⟨h.1, h.2.mono hp⟩
theorem RepAll.app {μ : Mu} {ow : Nat → Prop} {w : World} {vs us : List V} {l m : List Value} (h : RepAll μ ow w vs l) (h' : RepAll μ ow w us m) : RepAll μ ow w (vs ++ us) (l ++ m) := h.append h'
theorem call_sound {F : Fr} {μ : Mu} {a : Act} {w : World} (hs : SatM F μ st a w) {o : Oper} {f0 : Operand} {args : Array Operand} {argTypes : Array TypeId}
    (hoo : o.op = .call { callee := .value f0, args := args, argTypes := argTypes }) {f : FuncId} {caps : List V} (hf : (cx F.n f0).ev st.s = .fn f caps)
    {Post : V → Store → Prop} (hc : Contract P f ((args.toList.map (cx F.n)).map (·.ev st.s) ++ caps) st.σ Post) {next : Act → World → Prop} {Q' : Exit → Act → World → Prop}
    (hnext : ∀ r σ', Post r σ' → ∀ a' w', SatF F ⟨putO st.s (o.dst.filter (· < F.n)) r, σ'⟩ a' w' → next a' w') : o.wp P a w next Q' := by
  have hfr := rep_cx hs f0
  rw [hf] at hfr
  simp only [Rep] at hfr
  obtain ⟨cvals, hfv, hcr⟩ := hfr
  have hargs := (rep_cxs hs args.toList).app hcr
  have hrun : (execOp a.eval o).run P w = .ok (.enter f ((args.toList.map a.eval ++ cvals).toArray)) w := by
    unfold execOp
    rw [hoo]
    simp only [resolve, hfv, Deferred.ofValue, Sem.run_bind, Sem.run_pure, Result.andThen_ok, invoke, run_callFunc hc.1]
    congr 2
    apply Array.ext'
    simp
  unfold Oper.wp
  rw [hrun]
  simp only [Oper.upon]
  have hsat : Sat w (Owned μ st.σ) μ st.σ w := by
    have h := hs.sat
    exact ⟨Nat.le_refl _, rfl, rfl, rfl, fun _ _ _ => rfl, h.fin, h.inj, h.obj, fun b hb _ => hb, h.globHere⟩
  refine (hc.2 μ w _ hsat hargs).mono ?_
  rintro e w' ⟨r, σ', μ', val, rfl, hp, hle, hs', hr⟩
  refine hnext r σ' hp _ _ ⟨μ', ?_⟩
  have hkeep : Keeps (Owned μ st.σ) (Owned μ' σ') w w' := fun b hb hn => ⟨fun ho => hn (hs'.fresh b ho hb), hs'.same b hb hn⟩
  have h0 := hs.sat
  have hfin : Sat F.w0 F.ow0 μ' σ' w' := by
    refine ⟨Nat.le_trans h0.size hs'.size, hs'.os.trans h0.os, hs'.tape.trans h0.tape, hs'.output.trans h0.output, ?_, hs'.fin, hs'.inj, hs'.obj, ?_, h0.glob⟩
    · intro b hb hn
      have h1 : ¬ Owned μ st.σ b := fun ho => hn (h0.fresh b ho hb)
      rw [hs'.same b (Nat.lt_of_lt_of_le hb h0.size) h1, h0.same b hb hn]
    · intro b hb hlt
      have h1 := hs'.fresh b hb (Nat.lt_of_lt_of_le hlt h0.size)
      exact h0.fresh b h1 hlt
  exact hs.step hfin hle hkeep hs'.size hr
theorem Runs.call {i : VIns} {l : List VIns} {fx : VX} {xs : List VX} (hw : wantV st.s i.g = some true) (ho : i.op = .call fx xs) {f : FuncId} {caps : List V} (hf : fx.ev st.s = .fn f caps)
    {Post : V → Store → Prop} (hc : Contract P f (xs.map (·.ev st.s) ++ caps) st.σ Post)
    (h : ∀ r σ', Post r σ' → Runs P n (.ops l :: k) ⟨putO st.s i.dst r, σ'⟩ Q) : Runs P n (.ops (i :: l) :: k) st Q := by
  refine Runs.ins (by rw [ho]; simp) hw fun F hn μ a w o all hi hs next Q' hnext => ?_
  subst hn
  obtain ⟨hop, hd⟩ := cins_op hi
  rw [ho] at hop
  obtain ⟨f0, args, argTypes, g1, rfl, rfl⟩ := cop_call hop
  refine call_sound hs g1 hf hc fun r σ' hp a' w' hs' => hnext _ a' w' hs' ?_
  rw [hd]
  exact h r σ' hp
theorem callM_sound {F : Fr} {μ : Mu} {a : Act} {w : World} (hs : SatM F μ st a w) {o : Oper} {f0 : Operand} {args : Array Operand} {argTypes : Array TypeId}
    (hoo : o.op = .call { callee := .value f0, args := args, argTypes := argTypes }) {f : FuncId} {first : List V} (hf : (cx F.n f0).ev st.s = .bm f first)
    {Post : V → Store → Prop} (hc : Contract P f (first ++ (args.toList.map (cx F.n)).map (·.ev st.s)) st.σ Post) {next : Act → World → Prop} {Q' : Exit → Act → World → Prop}
    (hnext : ∀ r σ', Post r σ' → ∀ a' w', SatF F ⟨putO st.s (o.dst.filter (· < F.n)) r, σ'⟩ a' w' → next a' w') : o.wp P a w next Q' := by
  have hfr := rep_cx hs f0
  rw [hf] at hfr
  simp only [Rep] at hfr
  obtain ⟨cvals, hfv, hcr⟩ := hfr
  have hargs := hcr.app (rep_cxs hs args.toList)
  have hrun : (execOp a.eval o).run P w = .ok (.enter f ((cvals ++ args.toList.map a.eval).toArray)) w := by
    unfold execOp
    rw [hoo]
    simp only [resolve, hfv, Deferred.ofValue, Sem.run_bind, Sem.run_pure, Result.andThen_ok, invoke, run_callFunc hc.1]
    congr 2
    apply Array.ext'
    simp
  unfold Oper.wp
  rw [hrun]
  simp only [Oper.upon]
  have hsat : Sat w (Owned μ st.σ) μ st.σ w := by
    have h := hs.sat
    exact ⟨Nat.le_refl _, rfl, rfl, rfl, fun _ _ _ => rfl, h.fin, h.inj, h.obj, fun b hb _ => hb, h.globHere⟩
  refine (hc.2 μ w _ hsat hargs).mono ?_
  rintro e w' ⟨r, σ', μ', val, rfl, hp, hle, hs', hr⟩
  refine hnext r σ' hp _ _ ⟨μ', ?_⟩
  have hkeep : Keeps (Owned μ st.σ) (Owned μ' σ') w w' := fun b hb hn => ⟨fun ho => hn (hs'.fresh b ho hb), hs'.same b hb hn⟩
  have h0 := hs.sat
  have hfin : Sat F.w0 F.ow0 μ' σ' w' := by
    refine ⟨Nat.le_trans h0.size hs'.size, hs'.os.trans h0.os, hs'.tape.trans h0.tape, hs'.output.trans h0.output, ?_, hs'.fin, hs'.inj, hs'.obj, ?_, h0.glob⟩
    · intro b hb hn
      have h1 : ¬ Owned μ st.σ b := fun ho => hn (h0.fresh b ho hb)
      rw [hs'.same b (Nat.lt_of_lt_of_le hb h0.size) h1, h0.same b hb hn]
    · intro b hb hlt
      have h1 := hs'.fresh b hb (Nat.lt_of_lt_of_le hlt h0.size)
      exact h0.fresh b h1 hlt
  exact hs.step hfin hle hkeep hs'.size hr
theorem Runs.callM {i : VIns} {l : List VIns} {fx : VX} {xs : List VX} (hw : wantV st.s i.g = some true) (ho : i.op = .call fx xs) {f : FuncId} {first : List V} (hf : fx.ev st.s = .bm f first)
    {Post : V → Store → Prop} (hc : Contract P f (first ++ xs.map (·.ev st.s)) st.σ Post)
    (h : ∀ r σ', Post r σ' → Runs P n (.ops l :: k) ⟨putO st.s i.dst r, σ'⟩ Q) : Runs P n (.ops (i :: l) :: k) st Q := by
  refine Runs.ins (by rw [ho]; simp) hw fun F hn μ a w o all hi hs next Q' hnext => ?_
  subst hn
  obtain ⟨hop, hd⟩ := cins_op hi
  rw [ho] at hop
  obtain ⟨f0, args, argTypes, g1, rfl, rfl⟩ := cop_call hop
  refine callM_sound hs g1 hf hc fun r σ' hp a' w' hs' => hnext _ a' w' hs' ?_
  rw [hd]
  exact h r σ' hp
inductive VR where
  | tmp (x : VX)
  | cell (agg : Bool) (sz : Nat) (x : VX)
  | bad
def cres (P : Program) (n : Nat) : ResultVar → VR
  | .tmp t => .tmp (cx n (.tmp t))
  | .cell t ty => if knownT P ty then .cell (aggT P ty) (P.cellsOf ty) (cx n (.tmp t)) else .bad
def resOne (st : St) : VR → Option V
  | .tmp x => some (x.ev st.s)
  | .cell agg sz x => loadV st.σ agg sz (x.ev st.s)
  | .bad => none
def resAll (st : St) : List VR → Option (List V)
  | [] => some []
  | r :: rs => match resOne st r with
      | some v => match resAll st rs with
        | some vs => some (v :: vs)
        | none => none
      | none => none
def resV (st : St) (l : List VR) : Option V := match resAll st l with
  | some [v] => some v
  | some vs => some (.tup vs)
  | none => none
def Ret (l : List VR) (st : St) (Post : V → Store → Prop) : Prop :=
  ∃ v v' σ', resV st l = some v ∧ SubStore σ' st.σ ∧ Wk st.σ σ' v v' ∧ Post v' σ'
structure VFn where
  n : Nat
  code : VCode
  res : List VR
def cfn (P : Program) (fn : Func) : Option VFn := match fn.body with
  | some c => some ⟨fn.ntmps, ccode P fn.ntmps c, fn.results.toList.map (cres P fn.ntmps)⟩
  | none => none
def resSem (tmps : Array Value) : ResultVar → Go.Sem Value
  | .tmp t => pure (tmps.getD t undef)
  | .cell b t => do loadVar t (← asAddr (tmps.getD b undef))
theorem results_eq (fn : Func) (tmps : Array Value) : results fn tmps = (do
    let vs ← Functor.map List.toArray (fn.results.toList.mapM (resSem tmps))
    pure (if h : vs.size = 1 then vs[0] else .tuple vs)) := by
  unfold results
  rw [Array.mapM_eq_mapM_toList]
  congr 3
theorem resOne_sound {F : Fr} {μ : Mu} {a : Act} {w : World} (hs : SatM F μ st a w) (r : ResultVar) {v : V} (h : resOne st (cres P F.n r) = some v) :
    ∃ x, (resSem a.tmps r).run P w = .ok x w ∧ Rep μ (Owned μ st.σ) w v x := by
  cases r with
  | tmp t =>
    simp only [cres, resOne, Option.some.injEq] at h
    subst h
    exact ⟨_, rfl, rep_cx hs (.tmp t)⟩
  | cell b t =>
    simp only [cres] at h
    split at h
    · rename_i hk
      simp only [resOne] at h
      have hx := rep_cx hs (.tmp b)
      obtain ⟨z, h1, h2⟩ := run_loadV (P := P) hs.sat hk hx h
      refine ⟨z, ?_, h2⟩
      have he : a.eval (.tmp b) = a.tmps.getD b undef := rfl
      rw [he] at h1
      simp only [Instr.loadAt, Sem.run_bind] at h1
      simp only [resSem, Sem.run_bind]
      generalize a.tmps.getD b undef = u at *
      cases u <;> simp [Instr.sureAddr] at h1
      rename_i p
      cases p <;> simp [asAddr] at h1 ⊢
      exact h1
    · simp [resOne] at h
theorem results_sound {F : Fr} {μ : Mu} {a : Act} {w : World} (hs : SatM F μ st a w) (fn : Func) {v : V} (h : resV st (fn.results.toList.map (cres P F.n)) = some v) :
    ∃ x, (results fn a.tmps).run P w = .ok x w ∧ Rep μ (Owned μ st.σ) w v x := by
  have key : ∀ (l : List ResultVar) (vs : List V), resAll st (l.map (cres P F.n)) = some vs →
      ∃ xs, (l.mapM (resSem a.tmps)).run P w = .ok xs w ∧ RepAll μ (Owned μ st.σ) w vs xs := by
    intro l
    induction l with
    | nil => intro vs h; simp only [List.map_nil, resAll, Option.some.injEq] at h; subst h; exact ⟨[], rfl, by simp [RepAll]⟩
    | cons r l ih =>
      intro vs h
      simp only [List.map_cons, resAll] at h
      split at h
      · rename_i v hv
        split at h
        · rename_i vs' hvs
          simp only [Option.some.injEq] at h
          subst h
          obtain ⟨x, h1, h2⟩ := resOne_sound (P := P) hs r hv
          obtain ⟨xs, h3, h4⟩ := ih vs' hvs
          refine ⟨x :: xs, ?_, by simp only [RepAll]; exact ⟨x, xs, rfl, h2, h4⟩⟩
          rw [List.mapM_cons]
          simp only [Sem.run_bind]
          rw [h1]
          simp only [Result.andThen_ok]
          rw [h3]
          simp
        · cases h
      · cases h
  unfold resV at h
  cases hall : resAll st (fn.results.toList.map (cres P F.n)) with
  | none => simp [hall] at h
  | some vs =>
    obtain ⟨xs, h1, h2⟩ := key _ _ hall
    have hrun : (results fn a.tmps).run P w = .ok (if hl : xs.toArray.size = 1 then xs.toArray[0] else .tuple xs.toArray) w := by
      rw [results_eq]
      simp only [Sem.run_bind, Sem.run_map]
      rw [h1]
      simp
    rw [hall] at h
    match vs, h, h2 with
    | [], h, h2 =>
      simp only [RepAll] at h2
      subst h2
      simp only [Option.some.injEq] at h
      subst h
      exact ⟨_, hrun, by simp [Rep, RepAll]⟩
    | [u], h, h2 =>
      simp only [RepAll] at h2
      obtain ⟨x, xs', rfl, h3, rfl⟩ := h2
      simp only [Option.some.injEq] at h
      subst h
      exact ⟨_, hrun, by simpa using h3⟩
    | u1 :: u2 :: us, h, h2 =>
      simp only [Option.some.injEq] at h
      subst h
      have hlen := h2.length
      refine ⟨_, hrun, ?_⟩
      rw [dif_neg (by simp [hlen])]
      simp only [Rep]
      exact ⟨xs, rfl, h2⟩
def argSlots (args : List V) : Nat → V := fun i => args.getD i (.tup [])
theorem SatM.unmark {F : Fr} {μ : Mu} {a : Act} {w : World} (hs : SatM F μ st a w) {d : Deferred} {ds : List Deferred} (hd : a.defers = d :: ds) :
    ∃ D w', d.target = .collected D ∧ (Instr.takeDeferred D).run P w = .ok [] w' ∧ SatM F μ st { a with defers := ds } w' := by
  obtain ⟨Ds, h1, h2, h3⟩ := hs.book.marks
  rw [hd] at h1
  cases Ds with
  | nil => simp at h1
  | cons D Ds =>
    simp only [List.map_cons, List.cons.injEq] at h1
    obtain ⟨rfl, rfl⟩ := h1
    obtain ⟨g1, g2, g3⟩ := h3 D (by simp)
    simp only [List.nodup_cons] at h2
    refine ⟨D, w.putObj D (.deferred none), rfl, run_takeDeferred g2, ?_⟩
    have hne : ∀ b, b ≠ D → (w.putObj D (.deferred none)).heap[b]? = w.heap[b]? := fun b hb => World.putObj_heap_other hb
    have hk : KeepsC (Owned μ st.σ) (Owned μ st.σ) w (w.putObj D (.deferred none)) := fun b _ hn => ⟨hn, fun off x hx => by
      by_cases hb : b = D
      · subst hb
        simp [World.cell?, g2] at hx
      · exact cells_of_heap (hne b hb) off x hx⟩
    have hz : w.heap.size ≤ (w.putObj D (.deferred none)).heap.size := by simp
    refine ⟨⟨by simpa using hs.sat.size, hs.sat.os, hs.sat.tape, hs.sat.output, fun b hb hn => (hne b (by omega)).trans (hs.sat.same b hb hn), hs.sat.fin, hs.sat.inj, fun id o ho => ?_, hs.sat.fresh, hs.sat.glob⟩,
      hs.le, hs.size, ⟨fun l r e => ?_, Ds, rfl, h2.2, fun D' hD' => ?_⟩, fun i hi => Rep.monoC (MuLe.refl μ) hk hz _ _ (hs.slot i hi)⟩
    · refine (hs.sat.obj id o ho).monoC (MuLe.refl μ) hk hz fun b sz cap hp => hne b ?_
      rintro rfl
      exact g3 ⟨id, o, sz, cap, ho, hp⟩
    · obtain ⟨q1, q2⟩ := hs.book.rnd l r e
      refine ⟨(hne l ?_).trans q1, q2⟩
      rintro rfl
      rw [g2] at q1; cases q1
    · obtain ⟨q1, q2, q3⟩ := h3 D' (by simp [hD'])
      refine ⟨q1, (hne D' ?_).trans q2, q3⟩
      rintro rfl
      exact h2.1 hD'
theorem leaves_of {F : Fr} {μ : Mu} {fn : Func} {R : Ending → World → Prop} : ∀ (ds : List Deferred) (a : Act) (w : World), a.defers = ds → SatM F μ st a w →
    (∀ a' w', a'.tmps = a.tmps → SatM F μ st a' w' → ∃ v, (results fn a'.tmps).run P w' = .ok v w' ∧ R (.returned v) w') → LeavesInM F.fence 0 P fn a.tmps R ds .returning w
  | [], a, w, _, hs, h => by
    obtain ⟨v, h1, h2⟩ := h a w rfl hs
    exact ⟨v, h1, h2⟩
  | d :: ds, a, w, hd, hs, h => by
    obtain ⟨D, w', h1, h2, h3⟩ := hs.unmark (P := P) hd
    exact ⟨by simp, .inl ⟨D, w', h1, h2, leaves_of ds { a with defers := ds } w' rfl h3 (fun a' w' e hs' => h a' w' e hs')⟩⟩
theorem PCall.of_runs {f : FuncId} {fn : Func} {vf : VFn} (hf : P.funcs[f]? = some fn) (hv : cfn P fn = some vf) {args : List V} {σ : Store} {Post : V → Store → Prop} (hlen : args.length ≤ vf.n)
    (h : Runs P vf.n [.code vf.code] ⟨argSlots args, σ⟩ fun st => Ret vf.res st Post) : PCall P f args σ Post := by
  intro μ w vals hsat hr
  unfold cfn at hv
  cases hb : fn.body with
  | none => simp [hb] at hv
  | some c =>
    simp only [hb, Option.some.injEq] at hv
    subst hv
    simp only at h hlen
    have hl := hr.length
    refine callsIn_wide.1 (callsIn_of_wp_marks (n := 0) hf hb trivial ?_ rfl)
    have hs : SatM ⟨w, Owned μ σ, μ, fn.ntmps, none⟩ μ ⟨argSlots args, σ⟩ { tmps := vals.toArray ++ Array.replicate (fn.ntmps - vals.toArray.size) undef, defers := [] } w := by
      refine ⟨hsat, MuLe.refl μ, by simp; omega, ⟨fun _ _ e => by simp at e, [], rfl, .nil, by simp⟩, fun i hi => ?_⟩
      simp only [argSlots]
      by_cases hlt : i < args.length
      · have hv : args[i]? = some (args.getD i (.tup [])) := by simp [List.getD, List.getElem?_eq_getElem hlt]
        obtain ⟨x, hx, hrx⟩ := hr.get hv
        rw [Array.getD_eq_getD_getElem?, Array.getElem?_append_left (by simp; omega)]
        simp only [List.getElem?_toArray, hx, Option.getD_some]
        exact hrx
      · have hv : args.getD i (.tup []) = .tup [] := by simp [List.getD, List.getElem?_eq_none (Nat.le_of_not_lt hlt)]
        rw [hv, Array.getD_eq_getD_getElem?, Array.getElem?_append_right (by simp; omega)]
        simp only [Rep]
        refine ⟨[], ?_, by simp [RepAll]⟩
        rw [Array.getElem?_replicate]
        split <;> rfl
    have hgo := h ⟨w, Owned μ σ, μ, fn.ntmps, none⟩ rfl [.code c] rfl _ w ⟨μ, hs⟩
    refine wpIn_mono (F := Fence.wide) hgo ?_
    rintro e a' w' ⟨he, st, ⟨v, v', σ', hres, hsub, hwk, hpost⟩, μ', hs'⟩
    have hfin : LeavesInM Fence.wide 0 P fn a'.tmps (fun e w' => ∃ r σ' μ' val, e = Ending.returned val ∧ Post r σ' ∧ MuLe μ μ' ∧ Sat w (Owned μ σ) μ' σ' w' ∧ Rep μ' (Owned μ' σ') w' r val) a'.defers .returning w' := by
      refine leaves_of (F := ⟨w, Owned μ σ, μ, fn.ntmps, none⟩) a'.defers a' w' rfl hs' fun a1 w1 _ hs1 => ?_
      obtain ⟨x, hx, hrx⟩ := results_sound (P := P) hs1 fn hres
      exact ⟨x, hx, v', σ', μ', x, rfl, hpost, hs1.le, hs1.sat.drop hsub, hwk μ' _ _ _ _ hs1.sat hrx⟩
    rcases he with rfl | rfl <;> exact hfin
theorem Contract.of_runs {f : FuncId} {fn : Func} {vf : VFn} (hf : P.funcs[f]? = some fn) (hv : cfn P fn = some vf) (hcl : callable P f = true) {args : List V} {σ : Store} {Post : V → Store → Prop} (hlen : args.length ≤ vf.n)
    (h : Runs P vf.n [.code vf.code] ⟨argSlots args, σ⟩ fun st => Ret vf.res st Post) : Contract P f args σ Post := ⟨hcl, .of_runs hf hv hlen h⟩
end Go.Vc
namespace Go.Vc
variable {P : Program} {n : Nat}
def storeS (σ : Store) (sz : Nat) (xa xv : V) : Option Store :=
  match xa with
  | .ptr id i c => match σ id with
    | some ob => match ob.rows[i]? with
      | some r => match setRowV r c sz xv with
        | some r' => some (upd σ id ⟨ob.elem, ob.sz, ob.rows.set i r'⟩)
        | none => none
      | none => none
    | none => none
  | _ => none
def eff (s : Nat → V) (σ : Store) : VOp → Option (Nat → V × Store)
  | .alloc e sz z => some fun id => (.ptr id 0 0, upd σ id ⟨e, sz, [z]⟩)
  | .box e sz x => if (x.ev s).cells.length = sz ∧ (x.ev s).stays = true then some fun id => (.ptr id 0 0, upd σ id ⟨e, sz, [x.ev s]⟩) else none
  | .bslice e sz xs => if (xs.map (·.ev s)).all (fun x => decide (x.cells.length = sz) && x.stays) then some fun id => (.own id 0 xs.length, upd σ id ⟨e, sz, xs.map (·.ev s)⟩) else none
  | .append e sz bytes xa xb => match dstRows σ e sz (xa.ev s), srcRows σ sz (xb.ev s) with
    | some (base, idA), some src => if (base.length + src.length) * (bytes + 1) ≤ 140737488355328 then
        some fun id => (.own id 0 (base.length + src.length), upd (delO σ idA) id ⟨e, sz, base ++ src⟩) else none
    | _, _ => none
  | .mk e sz bytes z x => match x.ev s with
    | .int .i64 m => if 0 ≤ m ∧ m.toNat * (bytes + 1) ≤ 140737488355328 then some fun id => (.own id 0 m.toNat, upd σ id ⟨e, sz, List.replicate m.toNat z⟩) else none
    | _ => none
  | .appz e sz bytes z y x => match y.ev s, x.ev s with
    | .nils, .int _ m => if 0 < m ∧ m.toNat * (bytes + 1) ≤ 140737488355328 then some fun id => (.own id 0 m.toNat, upd σ id ⟨e, sz, List.replicate m.toNat z⟩) else none
    | _, _ => none
  | _ => none
def TO (P : Program) (dst : Option Nat) (op : VOp) (x : St) (K : St → Prop) : Prop :=
  match okind op with
  | 0 => vpre x.s op ∧ ∃ v, vpure x.σ x.s op = some v ∧ K ⟨putO x.s dst v, x.σ⟩
  | 1 => match op with
    | .call fx xs => ∃ f caps v, fx.ev x.s = .fn f caps ∧ (∀ σ1, SubStore x.σ σ1 → Contract P f (xs.map (·.ev x.s) ++ caps) σ1 (fun r σ' => r = v ∧ σ' = σ1)) ∧ K ⟨putO x.s dst v, x.σ⟩
    | _ => False
  | 2 => match op with
    | .store sz xa xv => ∃ σ', storeS x.σ sz (xa.ev x.s) (xv.ev x.s) = some σ' ∧ K ⟨putO x.s dst (.tup []), σ'⟩
    | _ => False
  | 3 => ∃ g, eff x.s x.σ op = some g ∧ ∀ id, x.σ id = none → K ⟨putO x.s dst (g id).1, (g id).2⟩
  | _ => False
def T (P : Program) (i : VIns) (x : St) (K : St → Prop) : Prop :=
  match wantV x.s i.g with
  | some true => TO P i.dst i.op x K
  | some false => K ⟨putO x.s i.dst (.tup []), x.σ⟩
  | none => False
theorem TO.mono {dst : Option Nat} {op : VOp} {x : St} {K K' : St → Prop} (hk : ∀ x, K x → K' x) (h : TO P dst op x K) : TO P dst op x K' := by
  unfold TO at *
  split <;> rename_i ho <;> simp only [ho] at h
  · obtain ⟨h1, v, h2, h3⟩ := h; exact ⟨h1, v, h2, hk _ h3⟩
  · split at h
    · obtain ⟨f, caps, v, h1, h2, h3⟩ := h; exact ⟨f, caps, v, h1, h2, hk _ h3⟩
    · exact h.elim
  · split at h
    · obtain ⟨σ', h1, h2⟩ := h; exact ⟨σ', h1, hk _ h2⟩
    · exact h.elim
  · obtain ⟨g, h1, h2⟩ := h; exact ⟨g, h1, fun id hid => hk _ (h2 id hid)⟩
theorem T.mono {i : VIns} {x : St} {K K' : St → Prop} (hk : ∀ x, K x → K' x) (h : T P i x K) : T P i x K' := by
  unfold T at *
  split <;> rename_i ho <;> simp only [ho] at h
  · exact h.mono hk
  · exact hk _ h
def Inf (σ : Store) : Prop := ∀ N, ∃ id, N ≤ id ∧ σ id = none
theorem Inf.upd {σ : Store} (h : Inf σ) (id : Nat) (o : Ob) : Inf (upd σ id o) := fun N => by
  obtain ⟨i, h1, h2⟩ := h (max N (id + 1))
  exact ⟨i, by omega, by simp [Vc.upd, show i ≠ id by omega, h2]⟩
theorem Inf.delO {σ : Store} (h : Inf σ) (o : Option Nat) : Inf (delO σ o) := fun N => by
  obtain ⟨i, h1, h2⟩ := h N
  refine ⟨i, h1, ?_⟩
  cases o with
  | none => exact h2
  | some j => simp only [Vc.delO, del]; split <;> simp_all
theorem SatF.inf {F : Fr} {st : St} {a : Act} {w : World} (h : SatF F st a w) : Inf st.σ := by
  obtain ⟨μ, h⟩ := h
  obtain ⟨N, hN⟩ := h.sat.fin
  intro M
  refine ⟨max N M, by omega, ?_⟩
  cases ho : st.σ (max N M) with
  | none => rfl
  | some o =>
    have := h.sat.obj _ o ho
    rw [hN _ (by omega)] at this
    exact this.elim
theorem eff_inf {s : Nat → V} {σ : Store} (h : Inf σ) {op : VOp} {g : Nat → V × Store} (he : eff s σ op = some g) (id : Nat) : Inf (g id).2 := by
  unfold eff at he
  split at he
  · simp only [Option.some.injEq] at he; subst he; exact h.upd _ _
  · split at he
    · simp only [Option.some.injEq] at he; subst he; exact h.upd _ _
    · cases he
  · split at he
    · simp only [Option.some.injEq] at he; subst he; exact h.upd _ _
    · cases he
  · split at he
    · split at he
      · simp only [Option.some.injEq] at he; subst he; exact (h.delO _).upd _ _
      · cases he
    · cases he
  · split at he
    · split at he
      · simp only [Option.some.injEq] at he; subst he; exact h.upd _ _
      · cases he
    · cases he
  · split at he
    · split at he
      · simp only [Option.some.injEq] at he; subst he; exact h.upd _ _
      · cases he
    · cases he
  · cases he
theorem storeS_inf {σ σ' : Store} (h : Inf σ) {sz : Nat} {a v : V} (he : storeS σ sz a v = some σ') : Inf σ' := by
  unfold storeS at he
  split at he
  · split at he
    · split at he
      · split at he
        · simp only [Option.some.injEq] at he; subst he; exact h.upd _ _
        · cases he
      · cases he
    · cases he
  · cases he
theorem TO.inf {dst : Option Nat} {op : VOp} {x : St} {K : St → Prop} (hi : Inf x.σ) (h : TO P dst op x K) : TO P dst op x fun x' => Inf x'.σ ∧ K x' := by
  unfold TO at *
  split <;> rename_i ho <;> simp only [ho] at h
  · obtain ⟨h1, v, h2, h3⟩ := h; exact ⟨h1, v, h2, hi, h3⟩
  · split at h
    · obtain ⟨f, caps, v, h1, h2, h3⟩ := h; exact ⟨f, caps, v, h1, h2, hi, h3⟩
    · exact h.elim
  · split at h
    · obtain ⟨σ', h1, h2⟩ := h; exact ⟨σ', h1, storeS_inf hi h1, h2⟩
    · exact h.elim
  · obtain ⟨g, h1, h2⟩ := h; exact ⟨g, h1, fun id hid => ⟨eff_inf hi h1 id, h2 id hid⟩⟩
theorem T.inf {i : VIns} {x : St} {K : St → Prop} (hi : Inf x.σ) (h : T P i x K) : T P i x fun x' => Inf x'.σ ∧ K x' := by
  unfold T at *
  split <;> rename_i ho <;> simp only [ho] at h
  · exact h.inf hi
  · exact ⟨hi, h⟩
theorem ev_put {s : Nat → V} {d : Option Nat} {v : V} {x : VX} (h : ∀ t, d = some t → x.tmp? ≠ some t) : x.ev (putO s d v) = x.ev s := by
  cases d with
  | none => rfl
  | some t =>
    cases x with
    | c _ => rfl
    | t u =>
      simp only [VX.ev, putO]
      have := h t rfl
      simp only [VX.tmp?, ne_eq, Option.some.injEq] at this
      rw [if_neg this]
theorem map_ev {s s' : Nat → V} {l : List VX} (h : ∀ x ∈ l, x.ev s = x.ev s') : l.map (·.ev s) = l.map (·.ev s') := List.map_congr_left h
theorem omap_ev {s s' : Nat → V} {l : Option VX} (h : ∀ x ∈ l.toList, x.ev s = x.ev s') : l.map (·.ev s) = l.map (·.ev s') := by
  cases l with
  | none => rfl
  | some x => simp [h x (by simp)]
theorem vpure_congr {s s' : Nat → V} {σ : Store} {op : VOp} (h : ∀ x ∈ op.xs, x.ev s = x.ev s') : vpure σ s op = vpure σ s' op ∧ (vpre s op ↔ vpre s' op) := by
  cases op <;> simp only [VOp.xs, List.mem_cons, List.not_mem_nil, or_false, forall_eq_or_imp, forall_eq, List.mem_append] at h <;>
    simp only [vpure, vpre, h, and_true, and_self]
  case slice esz x lo hi mx =>
    rw [omap_ev (l := lo) (fun y hy => h.2 y (.inl (.inl hy))), omap_ev (l := hi) (fun y hy => h.2 y (.inl (.inr hy))), omap_ev (l := mx) (fun y hy => h.2 y (.inr hy))]
  case sliceS x lo hi =>
    rw [omap_ev (l := lo) (fun y hy => h.2 y (.inl hy)), omap_ev (l := hi) (fun y hy => h.2 y (.inr hy))]
  case mkfn f xs => rw [map_ev h]
  case more m xs =>
    by_cases hb : ∃ f, m = .mkB f
    · obtain ⟨f, rfl⟩ := hb
      have e := map_ev h
      cases xs with
      | nil => rfl
      | cons x xs => cases xs <;> exact congrArg (fun l => some (V.bm f l)) e
    cases xs with
    | nil => cases m <;> rfl
    | cons x xs =>
      have hx := h x (by simp)
      cases xs with
      | nil => cases m <;> first | rfl | exact absurd ⟨_, rfl⟩ hb | simp only [hx]
      | cons y ys => cases m <;> first | rfl | exact absurd ⟨_, rfl⟩ hb
  case build z ps =>
    have : (ps.map fun p => (p.1, p.2.1, p.2.2.ev s)) = ps.map fun p => (p.1, p.2.1, p.2.2.ev s') := List.map_congr_left fun p hp => by
      rw [h _ (List.mem_map.2 ⟨p, hp, rfl⟩)]
    rw [this]
theorem eff_congr {s s' : Nat → V} {σ : Store} {op : VOp} (h : ∀ x ∈ op.xs, x.ev s = x.ev s') : eff s σ op = eff s' σ op := by
  cases op <;> simp only [VOp.xs, List.mem_cons, List.not_mem_nil, or_false, forall_eq_or_imp, forall_eq, List.mem_append] at h <;>
    simp only [eff, h]
  case bslice e sz xs => rw [map_ev h]
theorem vpure_sfree {s : Nat → V} {σ σ' : Store} {op : VOp} (h : sfree op = true) : vpure σ s op = vpure σ' s op := by
  cases op
  case more m xs =>
    cases xs with
    | nil => cases m <;> rfl
    | cons x xs => cases xs <;> cases m <;> rfl
  all_goals first | rfl | simp [sfree] at h
end Go.Vc
namespace Go.Vc
variable {P : Program} {n : Nat}
theorem apart_spec {A B : VIns} (h : apartB A B = true) : (∀ d, A.dst = some d → d ∉ B.uses) ∧ (∀ d, B.dst = some d → d ∉ A.uses) ∧ (∀ d, A.dst = some d → B.dst ≠ some d) := by
  simp only [apartB, Bool.and_eq_true] at h
  obtain ⟨h1, h2⟩ := h
  refine ⟨fun d hd => ?_, fun d hd => ?_, fun d hd => ?_⟩
  · rw [hd] at h1; simp at h1; exact h1.1
  · rw [hd] at h2; simpa using h2
  · rw [hd] at h1; simp at h1; exact h1.2
theorem putO_comm {s : Nat → V} {a b : Option Nat} {u v : V} (h : ∀ d, a = some d → b ≠ some d) : putO (putO s a u) b v = putO (putO s b v) a u := by
  cases a with
  | none => rfl
  | some x =>
    cases b with
    | none => rfl
    | some y =>
      have hne : y ≠ x := fun e => h x rfl (by rw [e])
      funext i
      simp only [putO]
      by_cases h1 : i = y <;> by_cases h2 : i = x <;> simp_all
theorem uses_op {i : VIns} {x : VX} (hx : x ∈ i.op.xs) {t : Nat} (ht : x.tmp? = some t) : t ∈ i.uses :=
  List.mem_filterMap.2 ⟨x, List.mem_append_left _ hx, ht⟩
theorem op_put {i : VIns} {d : Option Nat} {v : V} (h : ∀ t, d = some t → t ∉ i.uses) (s : Nat → V) : ∀ x ∈ i.op.xs, x.ev (putO s d v) = x.ev s :=
  fun _ hx => ev_put fun t ht e => h t ht (uses_op hx e)
theorem want_put {i : VIns} {d : Option Nat} {v : V} (h : ∀ t, d = some t → t ∉ i.uses) (s : Nat → V) : wantV (putO s d v) i.g = wantV s i.g := by
  cases hg : i.g with
  | none => rfl
  | some g =>
    obtain ⟨x, b⟩ := g
    have : x.ev (putO s d v) = x.ev s := ev_put fun t ht e => h t ht (List.mem_filterMap.2 ⟨x, List.mem_append_right _ (by simp [hg]), e⟩)
    simp only [wantV, this]
def QO (P : Program) (op : VOp) (s : Nat → V) (σ : Store) (v : V) : Prop :=
  match okind op with
  | 0 => vpre s op ∧ vpure σ s op = some v
  | 1 => match op with
    | .call fx xs => ∃ f caps, fx.ev s = .fn f caps ∧ ∀ σ1, SubStore σ σ1 → Contract P f (xs.map (·.ev s) ++ caps) σ1 (fun r σ' => r = v ∧ σ' = σ1)
    | _ => False
  | _ => False
def QY (P : Program) (i : VIns) (s : Nat → V) (σ : Store) (v : V) : Prop :=
  (wantV s i.g = some true ∧ QO P i.op s σ v) ∨ (wantV s i.g = some false ∧ v = .tup [])
theorem T_quiet {i : VIns} (hq : quietI i = true) {x : St} {K : St → Prop} : T P i x K ↔ ∃ v, QY P i x.s x.σ v ∧ K ⟨putO x.s i.dst v, x.σ⟩ := by
  simp only [quietI, decide_eq_true_eq] at hq
  unfold T QY
  cases hw : wantV x.s i.g with
  | none => simp
  | some b =>
    cases b
    · simp
    · simp only [true_and, Option.some.injEq, Bool.true_eq_false, false_and, or_false]
      unfold TO QO
      have : okind i.op = 0 ∨ okind i.op = 1 := by omega
      rcases this with h0 | h0 <;> simp only [h0]
      · constructor
        · rintro ⟨h1, v, h2, h3⟩; exact ⟨v, ⟨h1, h2⟩, h3⟩
        · rintro ⟨v, ⟨h1, h2⟩, h3⟩; exact ⟨h1, v, h2, h3⟩
      · cases hop : i.op <;> simp [okind, hop] at h0 ⊢
        constructor
        · rintro ⟨f, caps, h1, v, h2, h3⟩; exact ⟨v, ⟨f, caps, h1, h2⟩, h3⟩
        · rintro ⟨v, ⟨f, caps, h1, h2⟩, h3⟩; exact ⟨f, caps, h1, v, h2, h3⟩
theorem QO_congr {op : VOp} {s s' : Nat → V} {σ : Store} {v : V} (h : ∀ x ∈ op.xs, x.ev s = x.ev s') (hq : QO P op s σ v) : QO P op s' σ v := by
  unfold QO at *
  by_cases h0 : okind op = 0
  · obtain ⟨h1, h2⟩ := vpure_congr (σ := σ) h
    simp only [h0] at hq ⊢
    exact ⟨h2.1 hq.1, h1 ▸ hq.2⟩
  · by_cases h1 : okind op = 1
    · simp only [h1] at hq ⊢
      cases op <;> simp only [] at hq <;> first | exact hq.elim | skip
      rename_i fx xs
      obtain ⟨f, caps, g1, g2⟩ := hq
      refine ⟨f, caps, ?_, ?_⟩
      · rw [← h fx (by simp [VOp.xs])]; exact g1
      · rw [← map_ev (s := s) (s' := s') fun x hx => h x (by simp [VOp.xs, hx])]; exact g2
    · exfalso
      revert hq
      split <;> simp_all
theorem QY_put {i : VIns} {s : Nat → V} {σ : Store} {v u : V} {d : Option Nat} (h : ∀ t, d = some t → t ∉ i.uses) : QY P i (putO s d u) σ v ↔ QY P i s σ v := by
  unfold QY
  rw [want_put h]
  constructor
  · rintro (⟨h1, h2⟩ | h1)
    · exact .inl ⟨h1, QO_congr (op_put h s) h2⟩
    · exact .inr h1
  · rintro (⟨h1, h2⟩ | h1)
    · exact .inl ⟨h1, QO_congr (fun x hx => (op_put h s x hx).symm) h2⟩
    · exact .inr h1
theorem sfree_kind {op : VOp} (h : sfree op = true) : okind op = 0 := by
  cases op
  case more m xs => cases m <;> simp [sfree, okind] at h ⊢
  all_goals simp [sfree, okind] at h ⊢
theorem QY_sfree {i : VIns} (hf : sfree i.op = true) {s : Nat → V} {σ σ' : Store} {v : V} (h : QY P i s σ v) : QY P i s σ' v := by
  rcases h with ⟨h1, h2⟩ | h1
  · refine .inl ⟨h1, ?_⟩
    unfold QO at *
    simp only [sfree_kind hf] at *
    exact ⟨h2.1, by rw [← vpure_sfree (σ := σ) hf]; exact h2.2⟩
  · exact .inr h1
theorem QY_fun {i : VIns} (hf : sfree i.op = true) {s : Nat → V} {σ : Store} {v v' : V} (h : QY P i s σ v) (h' : QY P i s σ v') : v = v' := by
  rcases h with ⟨h1, h2⟩ | ⟨h1, h2⟩ <;> rcases h' with ⟨g1, g2⟩ | ⟨g1, g2⟩
  · unfold QO at *
    simp only [sfree_kind hf] at *
    have := h2.2.symm.trans g2.2
    simpa using this
  · rw [h1] at g1; cases g1
  · rw [h1] at g1; cases g1
  · rw [h2, g2]
theorem T_eff {i : VIns} (he : effI i = true) {x : St} {K : St → Prop} : T P i x K ↔
    (wantV x.s i.g = some false ∧ K ⟨putO x.s i.dst (.tup []), x.σ⟩) ∨
    (wantV x.s i.g = some true ∧ ((∃ sz xa xv σ', i.op = .store sz xa xv ∧ storeS x.σ sz (xa.ev x.s) (xv.ev x.s) = some σ' ∧ K ⟨putO x.s i.dst (.tup []), σ'⟩) ∨
      (okind i.op = 3 ∧ ∃ g, eff x.s x.σ i.op = some g ∧ ∀ id, x.σ id = none → K ⟨putO x.s i.dst (g id).1, (g id).2⟩))) := by
  unfold T
  cases hw : wantV x.s i.g with
  | none => simp
  | some b =>
    cases b
    · simp
    · simp only [Option.some.injEq, Bool.true_eq_false, false_and, false_or, true_and]
      unfold TO
      simp only [effI, Bool.or_eq_true, beq_iff_eq] at he
      rcases he with h0 | h0 <;> simp only [h0]
      · cases hop : i.op <;> simp [okind, hop] at h0 ⊢
        constructor
        · rintro ⟨σ', h1, h2⟩; exact ⟨_, _, _, ⟨rfl, rfl, rfl⟩, σ', h1, h2⟩
        · rintro ⟨_, _, _, ⟨rfl, rfl, rfl⟩, σ', h1, h2⟩; exact ⟨σ', h1, h2⟩
      · have : ∀ sz xa xv, i.op ≠ .store sz xa xv := fun _ _ _ e => by rw [e] at h0; simp [okind] at h0
        simp [this]
def lookId (s : Nat → V) : VOp → Option Nat
  | .load _ _ x => match x.ev s with
      | .ptr id _ _ => some id
      | _ => none
  | .idxA _ x _ => match x.ev s with
      | .own id _ _ => some id
      | _ => none
  | .slice _ x _ _ _ => match x.ev s with
      | .own id _ _ => some id
      | _ => none
  | .bstr x => match x.ev s with
      | .own id _ _ => some id
      | _ => none
  | _ => none
theorem vpure_look {s : Nat → V} {σ σ' : Store} {op : VOp} (h : ∀ j, lookId s op = some j → σ j = σ' j) : vpure σ s op = vpure σ' s op := by
  cases op <;> try rfl
  case more m xs =>
    cases xs with
    | nil => cases m <;> rfl
    | cons x xs => cases xs <;> cases m <;> rfl
  case load agg sz x =>
    simp only [lookId] at h
    simp only [vpure, loadV]
    split
    · rename_i id i k hx
      simp only [hx, Option.some.injEq, forall_eq'] at h
      rw [h]
    · rfl
    · rfl
  case idxA esz x i =>
    simp only [lookId] at h
    simp only [vpure]
    generalize x.ev s = xv at *
    generalize i.ev s = iv at *
    cases xv <;> try (cases iv <;> rfl)
    case own id off len =>
      simp only [Option.some.injEq, forall_eq'] at h
      cases iv <;> try rfl
      simp only [idxAV, h]
  case bstr x =>
    simp only [lookId] at h
    simp only [vpure]
    generalize x.ev s = xv at *
    cases xv <;> try rfl
    case own id off len =>
      simp only [Option.some.injEq, forall_eq'] at h
      simp only [bytesV, h]
  case slice esz x lo hi mx =>
    simp only [lookId] at h
    simp only [vpure, sliceV]
    split
    · rename_i id off len hx
      simp only [hx, Option.some.injEq, forall_eq'] at h
      have : szIs σ id esz = szIs σ' id esz := by simp only [szIs, h]
      simp only [this]
    · rfl
    · rfl
    · rfl
theorem vpure_need {s : Nat → V} {σ : Store} {op : VOp} {v : V} (hv : vpure σ s op = some v) {j : Nat} (hj : lookId s op = some j) : σ j ≠ none := by
  intro hn
  cases op <;> simp only [lookId, reduceCtorEq] at hj
  case load agg sz x =>
    split at hj
    · rename_i id i k hx
      simp only [Option.some.injEq] at hj
      subst hj
      simp [vpure, loadV, hx, hn] at hv
    · cases hj
  case idxA esz x i =>
    split at hj
    · rename_i id off len hx
      simp only [Option.some.injEq] at hj
      subst hj
      simp only [vpure] at hv
      rw [hx] at hv
      generalize i.ev s = iv at hv
      cases iv <;> simp [idxAV, hn] at hv
    · cases hj
  case bstr x =>
    split at hj
    · rename_i id off len hx
      simp only [Option.some.injEq] at hj
      subst hj
      simp [vpure, bytesV, hx, hn] at hv
    · cases hj
  case slice esz x lo hi mx =>
    split at hj
    · rename_i id off len hx
      simp only [Option.some.injEq] at hj
      subst hj
      simp only [vpure, sliceV, hx, szIs, hn] at hv
      split at hv
      · simp at hv
      · cases hv
    · cases hj
theorem mkI_eff {i : VIns} (h : mkI i = true) : okind i.op = 3 ∧ ∀ s σ g, eff s σ i.op = some g → ∀ id j, j ≠ id → (g id).2 j = σ j := by
  unfold mkI at h
  split at h
  · rename_i hop
    refine ⟨by rw [hop]; rfl, fun s σ g hg id j hj => ?_⟩
    rw [hop] at hg
    simp only [eff, Option.some.injEq] at hg
    subst hg
    simp [Vc.upd, hj]
  · rename_i hop
    refine ⟨by rw [hop]; rfl, fun s σ g hg id j hj => ?_⟩
    rw [hop] at hg
    simp only [eff] at hg
    split at hg
    · simp only [Option.some.injEq] at hg
      subst hg
      simp [Vc.upd, hj]
    · cases hg
  · rename_i hop
    refine ⟨by rw [hop]; rfl, fun s σ g hg id j hj => ?_⟩
    rw [hop] at hg
    simp only [eff] at hg
    split at hg
    · simp only [Option.some.injEq] at hg
      subst hg
      simp [Vc.upd, hj]
    · cases hg
  · rename_i hop
    refine ⟨by rw [hop]; rfl, fun s σ g hg id j hj => ?_⟩
    rw [hop] at hg
    simp only [eff] at hg
    split at hg
    · split at hg
      · simp only [Option.some.injEq] at hg
        subst hg
        simp [Vc.upd, hj]
      · cases hg
    · cases hg
  · cases h
theorem rowI_eff {i : VIns} (h : rowI i = true) : okind i.op = 3 ∧ ∀ s σ g, eff s σ i.op = some g → ∀ id j, j ≠ id → (g id).2 j = σ j ∨ (g id).2 j = none := by
  by_cases hm : mkI i = true
  · exact ⟨(mkI_eff hm).1, fun s σ g hg id j hj => .inl ((mkI_eff hm).2 s σ g hg id j hj)⟩
  · unfold rowI at h
    unfold mkI at hm
    cases hop : i.op <;> rw [hop] at h hm <;> simp at h hm
    refine ⟨rfl, fun s σ g hg id j hj => ?_⟩
    simp only [eff] at hg
    split at hg
    · split at hg
      · simp only [Option.some.injEq] at hg
        subst hg
        rename_i idA _ _ _ _ _
        simp only [Vc.upd, if_neg hj]
        rename_i base idA src _ _ _
        cases idA with
        | none => exact .inl rfl
        | some a =>
          simp only [delO, del]
          split
          · exact .inr rfl
          · exact .inl rfl
      · cases hg
    · cases hg
theorem QY_look {i : VIns} (hp : plainI i = true) {s : Nat → V} {σ σ' : Store} (h : ∀ j, lookId s i.op = some j → σ j = σ' j) {v : V} (hq : QY P i s σ v) : QY P i s σ' v := by
  simp only [plainI, beq_iff_eq] at hp
  rcases hq with ⟨h1, h2⟩ | h1
  · refine .inl ⟨h1, ?_⟩
    unfold QO at *
    simp only [hp] at *
    exact ⟨h2.1, by rw [← vpure_look h]; exact h2.2⟩
  · exact .inr h1
theorem QY_plain_fun {i : VIns} (hp : plainI i = true) {s : Nat → V} {σ : Store} {v v' : V} (h : QY P i s σ v) (h' : QY P i s σ v') : v = v' := by
  simp only [plainI, beq_iff_eq] at hp
  rcases h with ⟨h1, h2⟩ | ⟨h1, h2⟩ <;> rcases h' with ⟨g1, g2⟩ | ⟨g1, g2⟩
  · unfold QO at *
    simp only [hp] at *
    have := h2.2.symm.trans g2.2
    simpa using this
  · rw [h1] at g1; cases g1
  · rw [h1] at g1; cases g1
  · rw [h2, g2]
theorem QY_need {i : VIns} (hp : plainI i = true) {s : Nat → V} {σ : Store} {v : V} (h : QY P i s σ v) (hw : wantV s i.g = some true) {j : Nat} (hj : lookId s i.op = some j) : σ j ≠ none := by
  simp only [plainI, beq_iff_eq] at hp
  rcases h with ⟨_, h2⟩ | ⟨h1, _⟩
  · unfold QO at h2
    simp only [hp] at h2
    exact vpure_need h2.2 hj
  · rw [hw] at h1; cases h1
theorem QY_skip {i : VIns} {s : Nat → V} {σ σ' : Store} {v : V} (h : QY P i s σ v) (hw : wantV s i.g ≠ some true) : QY P i s σ' v := by
  rcases h with ⟨h1, _⟩ | h1
  · exact absurd h1 hw
  · exact .inr h1
theorem QY_fresh {i : VIns} (hp : plainI i = true) {s : Nat → V} {σ σ' : Store} {id : Nat} (hid : σ id = none) (hσ : ∀ j, j ≠ id → σ' j = σ j) {v : V} (h : QY P i s σ v) : QY P i s σ' v := by
  by_cases hw : wantV s i.g = some true
  · refine QY_look hp (fun j hj => ?_) h
    have := QY_need hp h hw hj
    rw [hσ j (fun e => this (e ▸ hid))]
  · exact QY_skip h hw
theorem QY_freshQ {i : VIns} (hq : quietI i = true) {s : Nat → V} {σ σ' : Store} {id : Nat} (hid : σ id = none) (hσ : ∀ j, j ≠ id → σ' j = σ j) {v : V} (h : QY P i s σ v) : QY P i s σ' v := by
  by_cases hp : plainI i = true
  · exact QY_fresh hp hid hσ h
  · have hsub : SubStore σ σ' := fun j o hj => by rw [hσ j (fun e => by rw [e, hid] at hj; cases hj)]; exact hj
    rcases h with ⟨h1, h2⟩ | h1
    · refine .inl ⟨h1, ?_⟩
      have hk : okind i.op = 1 := by
        simp only [quietI, decide_eq_true_eq] at hq
        simp only [plainI, beq_iff_eq] at hp
        omega
      unfold QO at *
      simp only [hk] at *
      split at h2
      · obtain ⟨f, caps, g1, g2⟩ := h2
        exact ⟨f, caps, g1, fun σ1 hs => g2 σ1 (hsub.trans hs)⟩
      · exact h2.elim
    · exact .inr h1
theorem mkI_form {i : VIns} (h : mkI i = true) {s : Nat → V} {σ : Store} {g : Nat → V × Store} (hg : eff s σ i.op = some g) :
    ∃ (vf : Nat → V) (ob : Ob), (∀ id, g id = (vf id, Vc.upd σ id ob)) ∧ ∀ σ', eff s σ' i.op = some fun id => (vf id, Vc.upd σ' id ob) := by
  unfold mkI at h
  split at h
  · rename_i hop; rw [hop] at hg ⊢
    simp only [eff, Option.some.injEq] at hg
    subst hg
    exact ⟨_, _, fun _ => rfl, fun _ => rfl⟩
  · rename_i hop; rw [hop] at hg ⊢
    simp only [eff] at hg ⊢
    split at hg
    · rename_i hc
      simp only [Option.some.injEq] at hg
      subst hg
      exact ⟨_, _, fun _ => rfl, fun σ' => by rw [if_pos hc]⟩
    · cases hg
  · rename_i hop; rw [hop] at hg ⊢
    simp only [eff] at hg ⊢
    split at hg
    · rename_i hc
      simp only [Option.some.injEq] at hg
      subst hg
      exact ⟨_, _, fun _ => rfl, fun σ' => by rw [if_pos hc]⟩
    · cases hg
  · rename_i hop; rw [hop] at hg ⊢
    simp only [eff] at hg ⊢
    split at hg
    · rename_i hx
      split at hg
      · rename_i hc
        simp only [Option.some.injEq] at hg
        subst hg
        exact ⟨_, _, fun _ => rfl, fun σ' => by rw [if_pos hc]⟩
      · cases hg
    · cases hg
  · cases h
theorem okind_noS {op : VOp} (hk : okind op = 3) {sz : Nat} {xa xv : VX} (hop : op = .store sz xa xv) : False := by rw [hop] at hk; simp [okind] at hk
theorem upd_comm' {σ : Store} {a b : Nat} {oa ob : Ob} (h : a ≠ b) : Vc.upd (Vc.upd σ a oa) b ob = Vc.upd (Vc.upd σ b ob) a oa := by
  funext i
  unfold Vc.upd
  by_cases h1 : i = a <;> by_cases h2 : i = b <;> simp_all
theorem row_form {i : VIns} (h : rowI i = true) {s : Nat → V} {σ : Store} {g : Nat → V × Store} (hg : eff s σ i.op = some g) :
    ∃ (vf : Nat → V) (ob : Ob) (d : Option Nat), (∀ id, g id = (vf id, Vc.upd (delO σ d) id ob)) ∧ (∀ a, d = some a → σ a ≠ none) ∧
      ∀ j o, σ j = none → eff s (Vc.upd σ j o) i.op = some fun id => (vf id, Vc.upd (delO (Vc.upd σ j o) d) id ob) := by
  by_cases hm : mkI i = true
  · obtain ⟨vf, ob, h1, h2⟩ := mkI_form hm hg
    exact ⟨vf, ob, none, h1, by simp, fun j o _ => h2 _⟩
  · unfold rowI at h
    unfold mkI at hm
    cases hop : i.op <;> rw [hop] at h hm hg <;> simp at h hm
    rename_i e sz bytes xa xb
    simp only [eff] at hg ⊢
    split at hg
    · rename_i base idA src e1 e2
      split at hg
      · rename_i hc
        simp only [Option.some.injEq] at hg
        subst hg
        have hlive : ∀ a, idA = some a → σ a ≠ none := fun a ha => by
          subst ha
          unfold dstRows at e1
          split at e1
          · split at e1
            · rename_i ob hob
              split at e1
              · simp only [Option.some.injEq, Prod.mk.injEq] at e1
                rw [← e1.2, hob]; simp
              · cases e1
            · cases e1
          · simp at e1
          · cases e1
        refine ⟨_, _, idA, fun _ => rfl, hlive, fun j o hj => ?_⟩
        have hne : ∀ id ob, σ id = some ob → Vc.upd σ j o id = some ob := fun id ob h => by
          have : id ≠ j := fun e => by rw [e, hj] at h; cases h
          simp [Vc.upd, this, h]
        have d1 : dstRows (Vc.upd σ j o) e sz (xa.ev s) = some (base, idA) := by
          rw [← e1]
          unfold dstRows at e1 ⊢
          split at e1
          · rename_i id _ _ _
            split at e1
            · rename_i ob hob
              simp only [hob, hne _ _ hob]
            · cases e1
          · rfl
          · cases e1
        have d2 : srcRows (Vc.upd σ j o) sz (xb.ev s) = some src := by
          rw [← e2]
          unfold srcRows at e2 ⊢
          split at e2
          · split at e2
            · rename_i ob hob
              simp only [hob, hne _ _ hob]
            · cases e2
          all_goals first | rfl | cases e2
        simp only [d1, d2]
        rw [if_pos hc]
      · cases hg
    · cases hg
theorem T_swap {A B : VIns} (hp : okPair A B = true) {x : St} (hi : Inf x.σ) {K : St → Prop} (h : T P A x fun x' => T P B x' K) : T P B x fun x' => T P A x' K := by
  simp only [okPair, Bool.and_eq_true, Bool.or_eq_true] at hp
  obtain ⟨hap, hk⟩ := hp
  obtain ⟨h1, h2, h3⟩ := apart_spec hap
  have hcomm : ∀ (s : Nat → V) u v, putO (putO s A.dst u) B.dst v = putO (putO s B.dst v) A.dst u := fun s u v => putO_comm h3
  rcases hk with ((((⟨qa, qb⟩ | ⟨ea, sb⟩) | ⟨sa, eb⟩) | ⟨pa, mb⟩) | ⟨ma, pb⟩) | ⟨ma, mb⟩
  · rw [T_quiet qa] at h
    obtain ⟨u, hu, h⟩ := h
    rw [T_quiet qb] at h
    obtain ⟨v, hv, h⟩ := h
    rw [T_quiet qb]
    refine ⟨v, (QY_put h1).1 hv, ?_⟩
    rw [T_quiet qa]
    refine ⟨u, (QY_put h2).2 hu, ?_⟩
    simp only at h ⊢
    rw [← hcomm]; exact h
  · have qb : quietI B = true := by simp [quietI, sfree_kind sb]
    rw [T_eff ea] at h
    rcases h with ⟨hw, h⟩ | ⟨hw, ⟨sz, xa, xv, σ', hop, hs, h⟩ | ⟨hk3, g, hg, h⟩⟩
    · rw [T_quiet qb] at h
      obtain ⟨v, hv, h⟩ := h
      rw [T_quiet qb]
      refine ⟨v, (QY_put h1).1 hv, ?_⟩
      rw [T_eff ea]
      refine .inl ⟨by rw [want_put h2]; exact hw, ?_⟩
      simp only at h ⊢
      rw [← hcomm]; exact h
    · rw [T_quiet qb] at h
      obtain ⟨v, hv, h⟩ := h
      rw [T_quiet qb]
      refine ⟨v, QY_sfree sb ((QY_put h1).1 hv), ?_⟩
      rw [T_eff ea]
      refine .inr ⟨by rw [want_put h2]; exact hw, .inl ⟨sz, xa, xv, σ', hop, ?_, ?_⟩⟩
      · simp only
        rw [op_put h2 x.s xa (by simp [hop, VOp.xs]), op_put h2 x.s xv (by simp [hop, VOp.xs])]
        exact hs
      · simp only at h ⊢
        rw [← hcomm]; exact h
    · obtain ⟨id0, _, hid0⟩ := hi 0
      have h0 := h id0 hid0
      rw [T_quiet qb] at h0
      obtain ⟨v, hv, _⟩ := h0
      have hvx : QY P B x.s x.σ v := QY_sfree sb ((QY_put h1).1 hv)
      rw [T_quiet qb]
      refine ⟨v, hvx, ?_⟩
      rw [T_eff ea]
      refine .inr ⟨by rw [want_put h2]; exact hw, .inr ⟨hk3, g, ?_, fun id hid => ?_⟩⟩
      · rw [← hg]; exact eff_congr (op_put h2 x.s)
      · have h4 := h id hid
        rw [T_quiet qb] at h4
        obtain ⟨v', hv', h4⟩ := h4
        have hvx' : QY P B x.s x.σ v' := QY_sfree sb ((QY_put h1).1 hv')
        have := QY_fun sb hvx hvx'
        subst this
        simp only at h4 ⊢
        rw [← hcomm]; exact h4
  · have qa : quietI A = true := by simp [quietI, sfree_kind sa]
    rw [T_quiet qa] at h
    obtain ⟨u, hu, h⟩ := h
    rw [T_eff eb] at h
    rw [T_eff eb]
    rcases h with ⟨hw, h⟩ | ⟨hw, ⟨sz, xa, xv, σ', hop, hs, h⟩ | ⟨hk3, g, hg, h⟩⟩
    · refine .inl ⟨by rw [← want_put h1]; exact hw, ?_⟩
      rw [T_quiet qa]
      refine ⟨u, (QY_put h2).2 hu, ?_⟩
      simp only at h ⊢
      rw [← hcomm]; exact h
    · refine .inr ⟨by rw [← want_put h1]; exact hw, .inl ⟨sz, xa, xv, σ', hop, ?_, ?_⟩⟩
      · simp only at hs
        rw [op_put h1 x.s xa (by simp [hop, VOp.xs]), op_put h1 x.s xv (by simp [hop, VOp.xs])] at hs
        exact hs
      · rw [T_quiet qa]
        refine ⟨u, (QY_put h2).2 (QY_sfree sa hu), ?_⟩
        simp only at h ⊢
        rw [← hcomm]; exact h
    · refine .inr ⟨by rw [← want_put h1]; exact hw, .inr ⟨hk3, g, ?_, fun id hid => ?_⟩⟩
      · rw [← hg]; exact (eff_congr (op_put h1 x.s)).symm
      · rw [T_quiet qa]
        refine ⟨u, (QY_put h2).2 (QY_sfree sa hu), ?_⟩
        have h4 := h id hid
        simp only at h4 ⊢
        rw [← hcomm]; exact h4
  · have qa : quietI A = true := pa
    obtain ⟨hk3, hfr⟩ := mkI_eff mb
    have eb : effI B = true := by simp [effI, hk3]
    rw [T_quiet qa] at h
    obtain ⟨u, hu, h⟩ := h
    rw [T_eff eb] at h
    rw [T_eff eb]
    rcases h with ⟨hw, h⟩ | ⟨hw, ⟨sz, xa, xv, σ', hop, hs, h⟩ | ⟨_, g, hg, h⟩⟩
    · refine .inl ⟨by rw [← want_put h1]; exact hw, ?_⟩
      rw [T_quiet qa]
      refine ⟨u, (QY_put h2).2 hu, ?_⟩
      simp only at h ⊢
      rw [← hcomm]; exact h
    · rw [hop] at hk3; simp [okind] at hk3
    · refine .inr ⟨by rw [← want_put h1]; exact hw, .inr ⟨hk3, g, ?_, fun id hid => ?_⟩⟩
      · rw [← hg]; exact (eff_congr (op_put h1 x.s)).symm
      · rw [T_quiet qa]
        refine ⟨u, (QY_put h2).2 (QY_freshQ qa hid (fun j hj => hfr _ _ g hg id j hj) hu), ?_⟩
        have h4 := h id hid
        simp only at h4 ⊢
        rw [← hcomm]; exact h4
  · have qb : quietI B = true := by simp only [plainI, beq_iff_eq] at pb; simp [quietI, pb]
    obtain ⟨hk3, hfr⟩ := rowI_eff ma
    have ea : effI A = true := by simp [effI, hk3]
    rw [T_eff ea] at h
    rcases h with ⟨hw, h⟩ | ⟨hw, ⟨sz, xa, xv, σ', hop, hs, h⟩ | ⟨_, g, hg, h⟩⟩
    · rw [T_quiet qb] at h
      obtain ⟨v, hv, h⟩ := h
      rw [T_quiet qb]
      refine ⟨v, (QY_put h1).1 hv, ?_⟩
      rw [T_eff ea]
      refine .inl ⟨by rw [want_put h2]; exact hw, ?_⟩
      simp only at h ⊢
      rw [← hcomm]; exact h
    · rw [hop] at hk3; simp [okind] at hk3
    · -- a fresh number that B does not ask for
      obtain ⟨id0, hge, hid0⟩ := hi ((lookId x.s B.op).getD 0 + 1)
      have h0 := h id0 hid0
      rw [T_quiet qb] at h0
      obtain ⟨v, hv, _⟩ := h0
      have hv1 := (QY_put h1).1 hv
      have hvx : QY P B x.s x.σ v := by
        by_cases hwB : wantV x.s B.g = some true
        · refine QY_look pb (fun j hj => ?_) hv1
          have hn := QY_need pb hv1 hwB hj
          refine (hfr _ _ g hg id0 j (fun e => ?_)).resolve_right hn
          rw [hj] at hge
          simp at hge
          omega
        · exact QY_skip hv1 hwB
      rw [T_quiet qb]
      refine ⟨v, hvx, ?_⟩
      rw [T_eff ea]
      refine .inr ⟨by rw [want_put h2]; exact hw, .inr ⟨hk3, g, ?_, fun id hid => ?_⟩⟩
      · rw [← hg]; exact eff_congr (op_put h2 x.s)
      · have h4 := h id hid
        rw [T_quiet qb] at h4
        obtain ⟨v', hv', h4⟩ := h4
        have hv2 := (QY_put h1).1 hv'
        have hv3 : QY P B x.s x.σ v' := by
          by_cases hwB : wantV x.s B.g = some true
          · refine QY_look pb (fun j hj => ?_) hv2
            have hn := QY_need pb hv2 hwB hj
            have hs := QY_need pb hvx hwB hj
            exact (hfr _ _ g hg id j (fun e => hs (e ▸ hid))).resolve_right hn
          · exact QY_skip hv2 hwB
        have := QY_plain_fun pb hv3 hvx
        subst this
        simp only at h4 ⊢
        rw [← hcomm]; exact h4
  · have ka := (rowI_eff ma).1
    have kb := (mkI_eff mb).1
    have ea : effI A = true := by simp [effI, ka]
    have eb : effI B = true := by simp [effI, kb]
    rw [T_eff ea] at h
    rw [T_eff eb]
    rcases h with ⟨hw, h⟩ | ⟨hw, ⟨sz, xa, xv, σ', hop, _⟩ | ⟨_, g, hg, h⟩⟩
    · rw [T_eff eb] at h
      rcases h with ⟨hw2, h⟩ | ⟨hw2, ⟨sz, xa, xv, σ', hop, _⟩ | ⟨_, g2, hg2, h⟩⟩
      · refine .inl ⟨by rw [← want_put h1]; exact hw2, ?_⟩
        rw [T_eff ea]
        refine .inl ⟨by rw [want_put h2]; exact hw, ?_⟩
        simp only at h ⊢
        rw [← hcomm]; exact h
      · exact (okind_noS kb hop).elim
      · refine .inr ⟨by rw [← want_put h1]; exact hw2, .inr ⟨kb, g2, by rw [← hg2]; exact (eff_congr (op_put h1 x.s)).symm, fun id hid => ?_⟩⟩
        rw [T_eff ea]
        refine .inl ⟨by rw [want_put h2]; exact hw, ?_⟩
        have h4 := h id hid
        simp only at h4 ⊢
        rw [← hcomm]; exact h4
    · exact (okind_noS ka hop).elim
    · obtain ⟨vA, oA, dA, hA, hdA, hA'⟩ := row_form ma hg
      obtain ⟨id0, _, hid0⟩ := hi 0
      have h0 := h id0 hid0
      rw [T_eff eb] at h0
      rcases h0 with ⟨hw2, _⟩ | ⟨hw2, ⟨sz, xa, xv, σ', hop, _⟩ | ⟨_, g2, hg2, _⟩⟩
      · refine .inl ⟨by rw [← want_put h1]; exact hw2, ?_⟩
        rw [T_eff ea]
        refine .inr ⟨by rw [want_put h2]; exact hw, .inr ⟨ka, g, by rw [← hg]; exact eff_congr (op_put h2 x.s), fun id hid => ?_⟩⟩
        have h4 := h id hid
        rw [T_eff eb] at h4
        rcases h4 with ⟨_, h4⟩ | ⟨hw3, _⟩
        · simp only at h4 ⊢
          rw [← hcomm]; exact h4
        · exfalso
          have e1 := want_put (v := (g id).1) h1 (s := x.s)
          have e2 := want_put (v := (g id0).1) h1 (s := x.s)
          simp only at hw2 hw3
          rw [e1] at hw3; rw [e2] at hw2
          rw [hw3] at hw2; cases hw2
      · exact (okind_noS kb hop).elim
      · have hg2x : eff x.s (g id0).2 B.op = some g2 := by rw [← hg2]; exact (eff_congr (op_put h1 x.s)).symm
        obtain ⟨vB, oB, hB, hB'⟩ := mkI_form mb hg2x
        refine .inr ⟨by rw [← want_put h1]; exact hw2, .inr ⟨kb, _, hB' x.σ, fun idB hidB => ?_⟩⟩
        rw [T_eff ea]
        refine .inr ⟨by rw [want_put h2]; exact hw, .inr ⟨ka, fun id => (vA id, Vc.upd (delO (Vc.upd x.σ idB oB) dA) id oA), ?_, fun idA hidA => ?_⟩⟩
        · rw [← hA' idB oB hidB]; exact eff_congr (op_put h2 x.s)
        · have hne : idA ≠ idB := fun e => by subst e; simp [Vc.upd] at hidA
          have hidA' : x.σ idA = none := by simpa [Vc.upd, hne] using hidA
          have h4 := h idA hidA'
          rw [T_eff eb] at h4
          rw [hA idA] at h4
          rcases h4 with ⟨hw3, _⟩ | ⟨_, ⟨sz, xa, xv, σ', hop, _⟩ | ⟨_, g3, hg3, h4⟩⟩
          · exfalso
            have e1 := want_put (v := vA idA) h1 (s := x.s)
            have e2 := want_put (v := (g id0).1) h1 (s := x.s)
            simp only at hw2 hw3
            rw [e1] at hw3; rw [e2] at hw2
            rw [hw3] at hw2; cases hw2
          · exact (okind_noS kb hop).elim
          · have e3 : eff x.s (Vc.upd (delO x.σ dA) idA oA) B.op = some g3 := by rw [← hg3]; exact (eff_congr (op_put h1 x.s)).symm
            rw [hB' (Vc.upd (delO x.σ dA) idA oA)] at e3
            simp only [Option.some.injEq] at e3
            subst e3
            have hdel : ∀ i, x.σ i = none → delO x.σ dA i = none := fun i hi => by
              cases dA with
              | none => exact hi
              | some a => simp only [delO, del]; split <;> first | rfl | exact hi
            have h5 := h4 idB (by simp [Vc.upd, hne.symm, hdel _ hidB])
            have hsw : delO (Vc.upd x.σ idB oB) dA = Vc.upd (delO x.σ dA) idB oB := by
              cases dA with
              | none => rfl
              | some a =>
                funext i
                have hab : a ≠ idB := fun e => hdA a rfl (by rw [e]; exact hidB)
                simp only [delO, del, Vc.upd]
                by_cases e1 : i = a
                · have hib : i ≠ idB := fun e => hab (e1 ▸ e)
                  simp [e1, hab]
                · by_cases e2 : i = idB <;> simp [e1, e2, Ne.symm hab]
            simp only at h5 ⊢
            rw [← hcomm, hsw, ← upd_comm' hne]; exact h5
end Go.Vc
namespace Go.Vc
variable {P : Program} {n : Nat}
theorem T.exists {i : VIns} {x : St} {K : St → Prop} (hi : Inf x.σ) (h : T P i x K) : ∃ x', K x' := by
  unfold T at h
  split at h
  · unfold TO at h
    split at h
    · obtain ⟨_, v, _, h⟩ := h; exact ⟨_, h⟩
    · split at h
      · obtain ⟨_, _, v, _, _, h⟩ := h; exact ⟨_, h⟩
      · exact h.elim
    · split at h
      · obtain ⟨_, _, h⟩ := h; exact ⟨_, h⟩
      · exact h.elim
    · obtain ⟨g, _, h⟩ := h
      obtain ⟨id, _, hid⟩ := hi 0
      exact ⟨_, h id hid⟩
    · exact h.elim
  · exact ⟨_, h⟩
  · exact h.elim
theorem T_sound {F : Fr} (hn : F.n = n) {o : Oper} {all : Array Oper} {x : St} {K : St → Prop} {a : Act} {w : World} (h : T P (cins P n all o) x K) (hs : SatF F x a w)
    {next : Act → World → Prop} {Q' : Exit → Act → World → Prop} (hnext : ∀ x' a' w', SatF F x' a' w' → K x' → next a' w') :
    if Region.wanted o (yielded all a.tmps) then cop P n o.op ≠ .bad ∧ o.wp P a w next Q' else next (a.put o.dst undef) w := by
  subst hn
  obtain ⟨μ, hs⟩ := hs
  unfold T at h
  cases hw : wantV x.s (cins P F.n all o).g with
  | none => simp only [hw] at h
  | some b =>
    have hwant := want_of (P := P) hs all o hw
    rw [hwant]
    simp only [hw] at h
    cases b
    · simp only [Bool.false_eq_true, if_false] at h ⊢
      exact hnext _ _ _ ⟨μ, hs.pure (d := o.dst) (by simp only [Rep]; exact ⟨[], rfl, by simp [RepAll]⟩)⟩ h
    · simp only [if_true] at h ⊢
      refine ⟨fun e => ?_, ?_⟩
      · have hopc : (cins P F.n all o).op = cop P F.n o.op := rfl
        rw [hopc, e] at h
        simp [TO, okind] at h
      have hdst : (cins P F.n all o).dst = o.dst.filter (· < F.n) := rfl
      have hopc : (cins P F.n all o).op = cop P F.n o.op := rfl
      rw [hdst, hopc] at h
      unfold TO at h
      split at h
      · obtain ⟨h1, v, h2, h3⟩ := h
        obtain ⟨z, hz, hr⟩ := vpure_sound hs o h1 h2
        unfold Oper.wp
        rw [hz]
        exact hnext _ _ _ ⟨μ, hs.pure hr⟩ h3
      · split at h
        · rename_i fx xs hop
          obtain ⟨f, caps, v, h1, h2, h3⟩ := h
          obtain ⟨f0, args, argTypes, g1, rfl, rfl⟩ := cop_call hop
          refine call_sound hs g1 h1 (h2 _ (SubStore.refl _)) fun r σ' hp a' w' hs' => ?_
          obtain ⟨rfl, rfl⟩ := hp
          exact hnext _ a' w' hs' h3
        · exact h.elim
      · split at h
        · rename_i sz xa xv hop
          obtain ⟨σ', h1, h2⟩ := h
          obtain ⟨t, y, z, g1, g2, rfl, rfl, rfl⟩ := cop_store hop
          unfold storeS at h1
          split at h1
          · rename_i id r0 c e1
            split at h1
            · rename_i ob e2
              split at h1
              · rename_i r e3
                split at h1
                · rename_i r' e4
                  simp only [Option.some.injEq] at h1
                  subst h1
                  obtain ⟨w', hx, hs'⟩ := store_sound hs g1 g2 e1 e2 e3 e4
                  unfold Oper.wp
                  rw [hx]
                  exact hnext _ _ _ ⟨μ, hs'⟩ h2
                · cases h1
              · cases h1
            · cases h1
          · cases h1
        · exact h.elim
      · obtain ⟨g, hg, h⟩ := h
        cases hop : cop P F.n o.op <;> rw [hop] at hg
        case box e sz xv =>
          simp only [eff] at hg
          split at hg
          · rename_i hc
            simp only [Option.some.injEq] at hg
            subst hg
            obtain ⟨y, g1, g2, rfl, rfl⟩ := cop_box hop
            obtain ⟨id, hid, z, w', μ', hz, hs'⟩ := box_sound hs g1 g2 hc.1 hc.2
            unfold Oper.wp
            rw [hz]
            exact hnext _ _ _ ⟨μ', hs'⟩ (h id hid)
          · cases hg
        case alloc e sz z =>
          simp only [eff, Option.some.injEq] at hg
          subst hg
          obtain ⟨ti, zv, g1, g2, rfl, rfl⟩ := cop_alloc hop
          obtain ⟨id, hid, y, w', μ', hy, hs'⟩ := alloc_sound hs g1 g2
          unfold Oper.wp
          rw [hy]
          exact hnext _ _ _ ⟨μ', hs'⟩ (h id hid)
        case bslice e sz xs =>
          simp only [eff] at hg
          split at hg
          · rename_i hc
            simp only [Option.some.injEq] at hg
            subst hg
            obtain ⟨t, len, parts, ti, z, h1, h2, h3, rfl, h5, h6, rfl⟩ := cop_bslice hop
            have hx : ∀ y ∈ parts.toList.map (fun p => (cx F.n p.2).ev x.s), y.cells.length = ti.size ∧ y.stays = true := by
              intro y hy
              have := List.all_eq_true.1 hc y (by rw [List.map_map]; exact hy)
              simpa using this
            obtain ⟨id, hid, y, w', μ', hy, hs'⟩ := bslice_sound hs h1 h2 h3 h5 h6 hx
            unfold Oper.wp
            rw [hy]
            have hl : parts.size = len := by have := congrArg List.length h5; simpa using this
            refine hnext _ _ _ ⟨μ', hs'⟩ ?_
            have := h id hid
            simpa only [List.length_map, List.map_map, Array.length_toList, hl, Function.comp_def] using this
          · cases hg
        case mk e sz bytes zv y =>
          simp only [eff] at hg
          split at hg
          · rename_i m hm
            split at hg
            · rename_i hc
              simp only [Option.some.injEq] at hg
              subst hg
              obtain ⟨t, l', c, ti, z, g1, g2, g3, rfl, rfl, rfl, g5, rfl⟩ := cop_mk hop
              obtain ⟨id, hid, x', w', μ', hx', hs'⟩ := mk_sound hs g1 g5 g2 g3 hm hc.1 hc.2
              unfold Oper.wp
              rw [hx']
              exact hnext _ _ _ ⟨μ', hs'⟩ (h id hid)
            · cases hg
          · cases hg
        case appz e sz bytes zv ya y =>
          simp only [eff] at hg
          split at hg
          · rename_i kq m hy hm
            split at hg
            · rename_i hc
              simp only [Option.some.injEq] at hg
              subst hg
              obtain ⟨t, tn, kn, x1, y1, args, argTypes, ti, z, g1, g2, g3, g4, g5, g6, rfl, rfl, rfl, rfl, rfl⟩ := cop_appz hop
              obtain ⟨id, hid, x', w', μ', hx', hs'⟩ := appz_sound hs g1 g2 g3 g4 g5 g6 hy hm hc.1 hc.2
              unfold Oper.wp
              rw [hx']
              exact hnext _ _ _ ⟨μ', hs'⟩ (h id hid)
            · cases hg
          · cases hg
        case append e sz bytes xa xb =>
          simp only [eff] at hg
          split at hg
          · rename_i base idA src e1 e2
            split at hg
            · rename_i hb
              simp only [Option.some.injEq] at hg
              subst hg
              obtain ⟨t, t', y, z, args, argTypes, ti, zv, g1, g2, g3, g3', g4, g5, rfl, rfl, rfl, rfl⟩ := cop_append hop
              obtain ⟨id, hid, r, w', μ', hx, hs'⟩ := append_sound hs g1 g2 g3 g3' g4 g5 e1 e2 hb
              unfold Oper.wp
              rw [hx]
              exact hnext _ _ _ ⟨μ', hs'⟩ (h id hid)
            · cases hg
          · cases hg
        all_goals simp [eff] at hg
      · exact h.elim
def Tn (P : Program) (n : Nat) (ops : Array Oper) (i : Nat) (x : St) (K : St → Prop) : Prop := match ops[i]? with
  | some o => T P (cins P n ops o) x K
  | none => K x
def wpAnyT (P : Program) (n : Nat) (ops : Array Oper) (Q : St → Prop) : Nat → Array Bool → St → Prop
  | 0, listed, x => Region.ready .any ops listed = [] ∧ Q x
  | f + 1, listed, x => (Region.ready .any ops listed = [] → Q x) ∧ ∀ i ∈ Region.ready .any ops listed, Tn P n ops i x (wpAnyT P n ops Q f (listed.setIfInBounds i true))
theorem wpAny_of_T {F : Fr} (hn : F.n = n) {ops : Array Oper} {Q : St → Prop} {Q' : Exit → Act → World → Prop} (hQ : ∀ x a w, SatF F x a w → Q x → Q' .normal a w) :
    ∀ (f : Nat) (listed : Array Bool) (x : St) (a : Act) (w : World), SatF F x a w → wpAnyT P n ops Q f listed x → wpAnyIn F.fence 0 P .any ops Q' f listed a w
  | 0, _, _, _, _, hs, h => ⟨h.1, hQ _ _ _ hs h.2⟩
  | f + 1, listed, x, a, w, hs, h => by
    refine ⟨fun h0 => hQ _ _ _ hs (h.1 h0), fun i hi => ?_⟩
    have h1 := h.2 i hi
    unfold Tn at h1
    unfold wpOpIn
    cases ho : ops[i]? with
    | none =>
      simp only [ho] at h1
      exact wpAny_of_T hn hQ f _ x a w hs h1
    | some o =>
      simp only [ho] at h1
      have h2 := T_sound (Q' := Q') hn h1 hs fun x' a' w' hs' hk => wpAny_of_T hn hQ f _ x' a' w' hs' hk
      by_cases hw : Region.wanted o (yielded ops a.tmps) = true
      · rw [if_pos hw] at h2
        simp only [hw, if_true]
        exact opIn (cop_defer h2.1) h2.2
      · rw [if_neg hw] at h2
        simp only [hw]
        exact ⟨fun _ _ => trivial, h2⟩
def Closed (ops : Array Oper) (listed : Array Bool) : Prop := ∀ m om, ops[m]? = some om → listed.getD m true = true → ∀ e ∈ om.after, Region.binds .any e = true → listed.getD e.on false = true
theorem Closed.list {ops : Array Oper} {listed : Array Bool} (h : Closed ops listed) {i : Nat} (hi : i ∈ Region.ready .any ops listed) : Closed ops (listed.setIfInBounds i true) := by
  intro m om hm hl e he hb
  by_cases hmi : m = i
  · subst hmi
    obtain ⟨_, o, ho, hall⟩ := mem_ready.1 hi
    rw [hm] at ho
    cases ho
    exact getD_set_true (hall e he hb)
  · rw [getD_set_ne true (Ne.symm hmi)] at hl
    exact getD_set_true (h m om hm hl e he hb)
theorem foldl_bits {f : Edge → Nat} (l : List Edge) : ∀ (s : Nat) (i : Nat), (l.foldl (fun s e => if Region.binds .any e then s ||| 2 ^ e.on ||| f e else s) s).testBit i = true →
    s.testBit i = true ∨ ∃ e ∈ l, Region.binds .any e = true ∧ (i = e.on ∨ (f e).testBit i = true) := by
  induction l with
  | nil => intro s i h; exact .inl h
  | cons e l ih =>
    intro s i h
    simp only [List.foldl_cons] at h
    rcases ih _ i h with h1 | ⟨e', h2, h3, h4⟩
    · by_cases hb : Region.binds .any e = true
      · rw [if_pos hb] at h1
        simp only [Nat.testBit_or, Bool.or_eq_true, Nat.testBit_two_pow] at h1
        rcases h1 with (h1 | h1) | h1
        · exact .inl h1
        · exact .inr ⟨e, by simp, hb, .inl (by simpa using (of_decide_eq_true h1).symm)⟩
        · exact .inr ⟨e, by simp, hb, .inr h1⟩
      · rw [if_neg hb] at h1; exact .inl h1
    · exact .inr ⟨e', by simp [h2], h3, h4⟩
theorem before_spec {ops : Array Oper} {listed : Array Bool} (hc : Closed ops listed) : ∀ (j : Nat) (oj : Oper) (i : Nat), ops[j]? = some oj → ((Region.before ops).getD j 0).testBit i = true →
    (∀ e ∈ oj.after, Region.binds .any e = true → listed.getD e.on false = true) → listed.getD i false = true := by
  -- by the list of operations, from the left
  have key : ∀ (l : List Oper) (acc : Array Nat) (k : Nat), acc.size = k → (∀ j, l[j]? = ops[k + j]?) →
      (∀ j oj i, j < k → ops[j]? = some oj → (acc.getD j 0).testBit i = true → (∀ e ∈ oj.after, Region.binds .any e = true → listed.getD e.on false = true) → listed.getD i false = true) →
      ∀ j oj i, ops[j]? = some oj → ((l.foldl (fun acc o => acc.push (o.after.foldl (fun s e => if Region.binds .any e then s ||| 2 ^ e.on ||| acc.getD e.on 0 else s) 0)) acc).getD j 0).testBit i = true →
        (∀ e ∈ oj.after, Region.binds .any e = true → listed.getD e.on false = true) → listed.getD i false = true := by
    intro l
    induction l with
    | nil =>
      intro acc k hk hl h j oj i hj hb hd
      have hlt : j < k := by
        rcases Nat.lt_or_ge j k with h1 | h1
        · exact h1
        · have := hl (j - k)
          rw [show k + (j - k) = j by omega, hj] at this
          simp at this
      exact h j oj i hlt hj hb hd
    | cons o l ih =>
      intro acc k hk hl h
      have hok : ops[k]? = some o := by simpa using (hl 0).symm
      refine ih _ (k + 1) (by simp [hk]) (fun j => by have := hl (j + 1); simpa [Nat.add_assoc, Nat.add_comm 1 j] using this) ?_
      intro j oj i hj hoj hb hd
      by_cases hjk : j = k
      · subst hjk
        rw [hoj] at hok
        cases hok
        rw [Array.getD_eq_getD_getElem?, ← hk, Array.getElem?_push_size] at hb
        simp only [Option.getD_some] at hb
        rw [← Array.foldl_toList] at hb
        rcases foldl_bits (f := fun e => acc.getD e.on 0) o.after.toList 0 i hb with h1 | ⟨e, he, hbd, h1 | h1⟩
        · simp at h1
        · rw [h1]; exact hd e (by simpa using he) hbd
        · have hel := hd e (by simpa using he) hbd
          by_cases hek : e.on < acc.size
          · have hex : e.on < ops.size := by
              have := (Array.getElem?_eq_some_iff.1 hoj).1
              omega
            have hoe : ops[e.on]? = some ops[e.on] := Array.getElem?_eq_getElem hex
            refine h e.on _ i (by omega) hoe h1 (hc e.on _ hoe ?_)
            have hsz : e.on < listed.size := by
              rcases Nat.lt_or_ge e.on listed.size with h2 | h2
              · exact h2
              · simp [Array.getElem?_eq_none h2] at hel
            simp only [Array.getD_eq_getD_getElem?, Array.getElem?_eq_getElem hsz, Option.getD_some] at hel ⊢
            exact hel
          · rw [Array.getD_eq_getD_getElem?, Array.getElem?_eq_none (by omega)] at h1
            simp at h1
      · have hjlt : j < k := by omega
        rw [Array.getD_eq_getD_getElem?, Array.getElem?_push_lt (by omega)] at hb
        refine h j oj i hjlt hoj ?_ hd
        rw [Array.getD_eq_getD_getElem?, Array.getElem?_eq_getElem (by omega)]
        exact hb
  intro j oj i hj hb hd
  unfold Region.before at hb
  rw [← Array.foldl_toList] at hb
  exact key ops.toList #[] 0 rfl (by simp) (fun j oj i h => by omega) j oj i hj hb hd
theorem wpAnyT_first {ops : Array Oper} {Q : St → Prop} {i : Nat} {oi : Oper} (hi : ops[i]? = some oi) : ∀ (f : Nat) (listed : Array Bool) (x : St), Inf x.σ → Closed ops listed →
    (∀ j oj, ops[j]? = some oj → j ≠ i → listed.getD j true = false → ((Region.before ops).getD j 0).testBit i = false → okPair (cins P n ops oi) (cins P n ops oj) = true) →
    i ∈ Region.ready .any ops listed → T P (cins P n ops oi) x (wpAnyT P n ops Q f (listed.setIfInBounds i true)) → wpAnyT P n ops Q (f + 1) listed x := by
  intro f
  induction f with
  | zero =>
    intro listed x hinf _ _ hr H
    refine ⟨fun h => (by rw [h] at hr; cases hr), fun j hj => ?_⟩
    by_cases hji : j = i
    · subst hji; unfold Tn; simp only [hi]; exact H
    · have := ready_mono hj hji
      obtain ⟨x', hx'⟩ := H.exists hinf
      rw [hx'.1] at this
      cases this
  | succ f ih =>
    intro listed x hinf hcl hfree hr H
    refine ⟨fun h => (by rw [h] at hr; cases hr), fun j hj => ?_⟩
    by_cases hji : j = i
    · subst hji; unfold Tn; simp only [hi]; exact H
    · obtain ⟨hjun, oj, hoj, hall⟩ := mem_ready.1 hj
      have hnot : ((Region.before ops).getD j 0).testBit i = false := by
        cases hb : ((Region.before ops).getD j 0).testBit i with
        | false => rfl
        | true =>
          exfalso
          have h1 := before_spec hcl j oj i hoj hb hall
          have h0 := (mem_ready.1 hr).1
          rcases Nat.lt_or_ge i listed.size with h' | h'
          · simp [h'] at h0 h1; rw [h0] at h1; cases h1
          · simp [Array.getElem?_eq_none h'] at h1
      have H2 : T P (cins P n ops oi) x fun x' => T P (cins P n ops oj) x' (wpAnyT P n ops Q f ((listed.setIfInBounds i true).setIfInBounds j true)) := by
        refine H.mono fun x' hx' => ?_
        have := hx'.2 j (ready_mono hj hji)
        unfold Tn at this
        simpa only [hoj] using this
      have h2 := T_swap (hfree j oj hoj hji hjun hnot) hinf H2
      have hfree' : ∀ k ok, ops[k]? = some ok → k ≠ i → (listed.setIfInBounds j true).getD k true = false →
          ((Region.before ops).getD k 0).testBit i = false → okPair (cins P n ops oi) (cins P n ops ok) = true := fun k ok hk hki hun hno => by
        refine hfree k ok hk hki ?_ hno
        by_cases hjk : j = k
        · subst hjk; exact hjun
        · rw [getD_set_ne true hjk] at hun; exact hun
      unfold Tn
      simp only [hoj]
      refine (h2.inf hinf).mono fun x' hx' => ih (listed.setIfInBounds j true) x' hx'.1 (hcl.list hj) hfree' (ready_mono hr (Ne.symm hji)) ?_
      rw [Array.setIfInBounds_comm _ _ hji]
      exact hx'.2
theorem freeC_spec {ops : Array Oper} {k : Nat} {ok : Oper} {listed : Array Bool} (hk : ops[k]? = some ok) (h : freeC P n ops k listed = true) (j : Nat) (oj : Oper) (hj : ops[j]? = some oj) (hne : j ≠ k)
    (hun : listed.getD j true = false) (hno : ((Region.before ops).getD j 0).testBit k = false) : okPair (cins P n ops ok) (cins P n ops oj) = true := by
  unfold freeC at h
  simp only [hk] at h
  have hjlt : j < ops.size := (Array.getElem?_eq_some_iff.1 hj).1
  have := List.all_eq_true.1 h j (List.mem_range.2 hjlt)
  simp only [hj, hun, hno, Bool.or_false, Bool.false_or, Bool.or_eq_true, beq_iff_eq, hne, false_or] at this
  exact this
def TChain (P : Program) (Q : St → Prop) : List VIns → St → Prop
  | [], x => Q x
  | i :: l, x => T P i x (TChain P Q l)
theorem wpAnyT_lex {ops : Array Oper} {Q : St → Prop} : ∀ (l : List Oper) (k : Nat) (listed : Array Bool) (x : St), Inf x.σ → Closed ops listed → (∀ j, l[j]? = ops[k + j]?) →
    lexC P n ops l.length k listed = true → TChain P Q (l.map (cins P n ops)) x → wpAnyT P n ops Q l.length listed x
  | [], _, _, _, _, _, _, hB, h => ⟨by simpa [lexC] using hB, h⟩
  | o :: l, k, listed, x, hinf, hcl, hl, hB, h => by
    have h0 : ops[k]? = some o := by simpa using (hl 0).symm
    simp only [List.length_cons, lexC, Bool.and_eq_true] at hB
    obtain ⟨⟨hr, hf⟩, hB'⟩ := hB
    refine wpAnyT_first h0 l.length listed x hinf hcl (freeC_spec h0 hf) (by simpa using hr) ?_
    refine (T.inf hinf h).mono fun x' hx' => ?_
    exact wpAnyT_lex l (k + 1) _ x' hx'.1 (hcl.list (by simpa using hr)) (fun j => by have := hl (j + 1); simpa [Nat.add_assoc, Nat.add_comm 1 j] using this) hB' hx'.2
theorem region_sound {F : Fr} (hn : F.n = n) {ops : Array Oper} (hok : drawOk P n ops = true) {id : Nat} {x : St} {a : Act} {w : World} (hs : SatF F x a w) {Q : St → Prop} {Q' : Exit → Act → World → Prop}
    (hQ : ∀ x a w, SatF F x a w → Q x → Q' .normal a w) (h : TChain P Q (ops.toList.map (cins P n ops)) x) : (Code.region id ops true).wpIn F.fence 0 P Q' a w := by
  simp only [drawOk, Bool.and_eq_true] at hok
  have hs' : SatF F x a { w with drawn := w.drawn + 1 } := by
    obtain ⟨μ, hs⟩ := hs
    have hk : Keeps (Owned μ x.σ) (Owned μ x.σ) w { w with drawn := w.drawn + 1 } := fun _ _ h => ⟨h, rfl⟩
    refine ⟨μ, ⟨⟨hs.sat.size, hs.sat.os, hs.sat.tape, hs.sat.output, hs.sat.same, hs.sat.fin, hs.sat.inj, fun id o ho => ?_, hs.sat.fresh, hs.sat.glob⟩, hs.le, hs.size, hs.book.keep hk, fun i hi => ?_⟩⟩
    · exact (hs.sat.obj id o ho).mono (MuLe.refl μ) hk (Nat.le_refl _) (fun _ _ _ _ => rfl)
    · exact Rep.mono (MuLe.refl μ) hk (Nat.le_refl _) _ _ (hs.slot i hi)
  refine wpIn_region_any hok.1 (wpAny_of_T hn hQ _ _ _ _ _ hs' ?_)
  have := wpAnyT_lex (P := P) (n := n) (Q := Q) ops.toList 0 (Array.replicate ops.size false) x hs.inf (fun m om hm hl => by
    have hlt : m < ops.size := (Array.getElem?_eq_some_iff.1 hm).1
    rw [Array.getD_eq_getD_getElem?, Array.getElem?_replicate, if_pos hlt] at hl
    simp at hl) (by simp) (by simpa using hok.2.2) h
  simpa using this
def wpAnyL (P : Program) (n : Nat) (ops : Array Oper) (m : Nat) (Q : St → Prop) : Nat → Array Bool → St → Prop
  | 0, listed, x => (Region.ready .any ops listed = [m] ∧ Region.ready .any ops (listed.setIfInBounds m true) = []) ∧ Q x
  | f + 1, listed, x => Region.ready .any ops listed ≠ [] ∧ ∀ i ∈ Region.ready .any ops listed, i ≠ m ∧ Tn P n ops i x (wpAnyL P n ops m Q f (listed.setIfInBounds i true))
theorem wpAny_of_L {F : Fr} (hn : F.n = n) {ops : Array Oper} {m : Nat} {Q : St → Prop} {Q' : Exit → Act → World → Prop} (hQ : ∀ x a w, SatF F x a w → Q x → wpOpIn F.fence 0 P ops Q' m (Q' .normal) a w) :
    ∀ (f : Nat) (listed : Array Bool) (x : St) (a : Act) (w : World), SatF F x a w → wpAnyL P n ops m Q f listed x → wpAnyIn F.fence 0 P .any ops Q' (f + 1) listed a w
  | 0, listed, x, a, w, hs, h => by
    obtain ⟨⟨h1, h2⟩, h3⟩ := h
    refine ⟨fun h0 => (by rw [h1] at h0; cases h0), fun i hi => ?_⟩
    rw [h1] at hi
    have him : i = m := by simpa using hi
    subst him
    exact wpOpIn_mono (fun a w h => ⟨h2, h⟩) (hQ x a w hs h3)
  | f + 1, listed, x, a, w, hs, h => by
    refine ⟨fun h0 => absurd h0 h.1, fun i hi => ?_⟩
    have h1 := (h.2 i hi).2
    unfold Tn at h1
    unfold wpOpIn
    cases ho : ops[i]? with
    | none =>
      simp only [ho] at h1
      exact wpAny_of_L hn hQ f _ x a w hs h1
    | some o =>
      simp only [ho] at h1
      have h2 := T_sound (Q' := Q') hn h1 hs fun x' a' w' hs' hk => wpAny_of_L hn hQ f _ x' a' w' hs' hk
      by_cases hw : Region.wanted o (yielded ops a.tmps) = true
      · rw [if_pos hw] at h2
        simp only [hw, if_true]
        exact opIn (cop_defer h2.1) h2.2
      · rw [if_neg hw] at h2
        simp only [hw]
        exact ⟨fun _ _ => trivial, h2⟩
theorem wpAnyL_first {ops : Array Oper} {m : Nat} {Q : St → Prop} {i : Nat} {oi : Oper} (hi : ops[i]? = some oi) (him : i ≠ m) (hm : ((Region.before ops).getD m 0).testBit i = true) :
    ∀ (f : Nat) (listed : Array Bool) (x : St), Inf x.σ → Closed ops listed →
    (∀ j oj, ops[j]? = some oj → j ≠ i → listed.getD j true = false → ((Region.before ops).getD j 0).testBit i = false → okPair (cins P n ops oi) (cins P n ops oj) = true) →
    i ∈ Region.ready .any ops listed → T P (cins P n ops oi) x (wpAnyL P n ops m Q f (listed.setIfInBounds i true)) → wpAnyL P n ops m Q (f + 1) listed x := by
  have hnotj : ∀ (listed : Array Bool), Closed ops listed → i ∈ Region.ready .any ops listed → ∀ j, j ∈ Region.ready .any ops listed → ((Region.before ops).getD j 0).testBit i = false := fun listed hcl hr j hj => by
    obtain ⟨hjun, oj, hoj, hall⟩ := mem_ready.1 hj
    cases hb : ((Region.before ops).getD j 0).testBit i with
    | false => rfl
    | true =>
      exfalso
      have h1 := before_spec hcl j oj i hoj hb hall
      have h0 := (mem_ready.1 hr).1
      rcases Nat.lt_or_ge i listed.size with h' | h'
      · simp [h'] at h0 h1; rw [h0] at h1; cases h1
      · simp [Array.getElem?_eq_none h'] at h1
  have hjm : ∀ (listed : Array Bool), Closed ops listed → i ∈ Region.ready .any ops listed → ∀ j, j ∈ Region.ready .any ops listed → j ≠ m := fun listed hcl hr j hj e => by
    have := hnotj listed hcl hr j hj
    rw [e, hm] at this
    cases this
  intro f
  induction f with
  | zero =>
    intro listed x hinf hcl _ hr H
    refine ⟨fun h => (by rw [h] at hr; cases hr), fun j hj => ⟨hjm listed hcl hr j hj, ?_⟩⟩
    by_cases hji : j = i
    · subst hji; unfold Tn; simp only [hi]; exact H
    · have := ready_mono hj hji
      obtain ⟨x', hx'⟩ := H.exists hinf
      rw [hx'.1.1] at this
      exact absurd (by simpa using this) (hjm listed hcl hr j hj)
  | succ f ih =>
    intro listed x hinf hcl hfree hr H
    refine ⟨fun h => (by rw [h] at hr; cases hr), fun j hj => ⟨hjm listed hcl hr j hj, ?_⟩⟩
    by_cases hji : j = i
    · subst hji; unfold Tn; simp only [hi]; exact H
    · obtain ⟨hjun, oj, hoj, hall⟩ := mem_ready.1 hj
      have hnot := hnotj listed hcl hr j hj
      have H2 : T P (cins P n ops oi) x fun x' => T P (cins P n ops oj) x' (wpAnyL P n ops m Q f ((listed.setIfInBounds i true).setIfInBounds j true)) := by
        refine H.mono fun x' hx' => ?_
        have := (hx'.2 j (ready_mono hj hji)).2
        unfold Tn at this
        simpa only [hoj] using this
      have h2 := T_swap (hfree j oj hoj hji hjun hnot) hinf H2
      have hfree' : ∀ k ok, ops[k]? = some ok → k ≠ i → (listed.setIfInBounds j true).getD k true = false →
          ((Region.before ops).getD k 0).testBit i = false → okPair (cins P n ops oi) (cins P n ops ok) = true := fun k ok hk hki hun hno => by
        refine hfree k ok hk hki ?_ hno
        by_cases hjk : j = k
        · subst hjk; exact hjun
        · rw [getD_set_ne true hjk] at hun; exact hun
      unfold Tn
      simp only [hoj]
      refine (h2.inf hinf).mono fun x' hx' => ih (listed.setIfInBounds j true) x' hx'.1 (hcl.list hj) hfree' (ready_mono hr (Ne.symm hji)) ?_
      rw [Array.setIfInBounds_comm _ _ hji]
      exact hx'.2
theorem wpAnyL_lex {ops : Array Oper} {m : Nat} {Q : St → Prop} : ∀ (l : List Oper) (k : Nat) (listed : Array Bool) (x : St), Inf x.σ → Closed ops listed → (∀ j, j < l.length → l[j]? = ops[k + j]?) →
    lexL P n ops m l.length k listed = true → TChain P Q (l.map (cins P n ops)) x → wpAnyL P n ops m Q l.length listed x
  | [], _, _, _, _, _, _, hB, h => ⟨by simpa [lexL] using hB, h⟩
  | o :: l, k, listed, x, hinf, hcl, hl, hB, h => by
    have h0 : ops[k]? = some o := by simpa using (hl 0 (by simp)).symm
    simp only [List.length_cons, lexL, Bool.and_eq_true] at hB
    obtain ⟨⟨hr, hkm, hbit⟩, hf, hB'⟩ := hB
    refine wpAnyL_first h0 (by simpa using hkm) hbit l.length listed x hinf hcl (freeC_spec h0 hf) (by simpa using hr) ?_
    refine (T.inf hinf h).mono fun x' hx' => ?_
    exact wpAnyL_lex l (k + 1) _ x' hx'.1 (hcl.list (by simpa using hr)) (fun j hj => by have := hl (j + 1) (by simpa using hj); simpa [Nat.add_assoc, Nat.add_comm 1 j] using this) hB' hx'.2
theorem region_soundL {F : Fr} (hn : F.n = n) {ops : Array Oper} (hok : lastOk P n ops = true) {id : Nat} {x : St} {a : Act} {w : World} (hs : SatF F x a w) {Q : St → Prop} {Q' : Exit → Act → World → Prop}
    (hQ : ∀ x a w, SatF F x a w → Q x → wpListIn F.fence 0 P ops Q' (ops.toList.drop (ops.size - 1)) a w) (h : TChain P Q ((ops.toList.take (ops.size - 1)).map (cins P n ops)) x) : (Code.region id ops true).wpIn F.fence 0 P Q' a w := by
  simp only [lastOk, Bool.and_eq_true, decide_eq_true_eq] at hok
  obtain ⟨hmx, hpos, _, _, hlex⟩ := hok
  have hs' : SatF F x a { w with drawn := w.drawn + 1 } := by
    obtain ⟨μ, hs⟩ := hs
    have hk : Keeps (Owned μ x.σ) (Owned μ x.σ) w { w with drawn := w.drawn + 1 } := fun _ _ h => ⟨h, rfl⟩
    refine ⟨μ, ⟨⟨hs.sat.size, hs.sat.os, hs.sat.tape, hs.sat.output, hs.sat.same, hs.sat.fin, hs.sat.inj, fun id o ho => ?_, hs.sat.fresh, hs.sat.glob⟩, hs.le, hs.size, hs.book.keep hk, fun i hi => ?_⟩⟩
    · exact (hs.sat.obj id o ho).mono (MuLe.refl μ) hk (Nat.le_refl _) (fun _ _ _ _ => rfl)
    · exact Rep.mono (MuLe.refl μ) hk (Nat.le_refl _) _ _ (hs.slot i hi)
  refine wpIn_region_any hmx ?_
  have hlen : (ops.toList.take (ops.size - 1)).length = ops.size - 1 := by simp
  have hdrop : ops.toList.drop (ops.size - 1) = [ops[ops.size - 1]'(by omega)] := by
    rw [List.drop_eq_getElem_cons (by simpa using (by omega : ops.size - 1 < ops.size))]
    simp [List.drop_eq_nil_of_le, show ops.size ≤ ops.size - 1 + 1 by omega]
  have hget : ops[ops.size - 1]? = some (ops[ops.size - 1]'(by omega)) := Array.getElem?_eq_getElem (by omega)
  have hL := wpAnyL_lex (P := P) (n := n) (Q := Q) (m := ops.size - 1) (ops.toList.take (ops.size - 1)) 0 (Array.replicate ops.size false) x hs.inf (fun m om hm hl => by
    have hlt : m < ops.size := (Array.getElem?_eq_some_iff.1 hm).1
    rw [Array.getD_eq_getD_getElem?, Array.getElem?_replicate, if_pos hlt] at hl
    simp at hl) (fun j hj => by rw [hlen] at hj; simp [List.getElem?_take, hj]) (by rw [hlen]; exact hlex) h
  rw [hlen] at hL
  have := wpAny_of_L (Q' := Q') hn (fun x a w hs hq => by
    have := hQ x a w hs hq
    rw [hdrop] at this
    unfold wpOpIn
    simpa only [hget, wpListIn] using this) _ _ _ _ _ hs' hL
  rwa [show ops.size - 1 + 1 = ops.size by omega] at this
end Go.Vc
namespace Go.Vc
variable {P : Program} {n : Nat} {st : St} {Q : St → Prop} {k : List It}
theorem Runs.dregion {l : List VIns} (h : TChain P (fun x => Runs P n k x Q) l st) : Runs P n (.code (.reg true l) :: k) st Q := by
  intro F hn kt hk a w hs
  obtain ⟨z, kt', rfl, hy, hk'⟩ := kt_cons hk
  obtain ⟨c0, rfl, hcc⟩ := it_code hy
  have hc0 : ∃ id ops, c0 = .region id ops true ∧ drawOk P n ops = true ∧ ops.toList.map (cins P n ops) = l := by
    cases c0 <;> simp only [ccode, reduceCtorEq] at hcc
    rename_i id ops draw
    cases draw
    · simp at hcc
    · simp only [Bool.true_and] at hcc
      split at hcc
      · cases hcc
      split at hcc
      · cases hcc
      · rename_i hd
        simp only [VCode.reg.injEq, true_and] at hcc
        exact ⟨id, ops, rfl, by simpa using hd, hcc⟩
  obtain ⟨id, ops, rfl, hok, rfl⟩ := hc0
  exact region_sound hn hok hs (fun x a w hs h => h F hn kt' hk' a w hs) h
theorem Runs.regL {l e : List VIns} (h : TChain P (fun x => Runs P n (.ops e :: k) x Q) l st) : Runs P n (.code (.regL l e) :: k) st Q := by
  intro F hn kt hk a w hs
  obtain ⟨z, kt', rfl, hy, hk'⟩ := kt_cons hk
  obtain ⟨c0, rfl, hcc⟩ := it_code hy
  have hc0 : ∃ id ops, c0 = .region id ops true ∧ lastOk P n ops = true ∧ (ops.toList.take (ops.size - 1)).map (cins P n ops) = l ∧ (ops.toList.drop (ops.size - 1)).map (cins P n ops) = e := by
    cases c0 <;> simp only [ccode, reduceCtorEq] at hcc
    rename_i id ops draw
    cases draw
    · simp at hcc
    · simp only [Bool.true_and] at hcc
      split at hcc
      · rename_i hd
        simp only [VCode.regL.injEq] at hcc
        exact ⟨id, ops, rfl, hd, hcc.1, hcc.2⟩
      · split at hcc <;> cases hcc
  obtain ⟨id, ops, rfl, hok, rfl, rfl⟩ := hc0
  exact region_soundL hn hok hs (fun x a w hs h => h F hn (.ops ops (ops.toList.drop (ops.size - 1)) :: kt') (by simp [KI.it, hk']) a w hs) h
def St.lit (st : St) : VX → V → St
  | .t d, v => ⟨putO st.s (some d) v, st.σ⟩
  | .c _, _ => st
inductive Td where
  | r (todo : List It)
  | d (l : List VIns) (todo : List It)
def Kof (P : Program) (n : Nat) (todo : List It) (st : St) (Q : St → Prop) : Prop := match todo with
  | .stop I :: _ => I st
  | todo => Runs P n todo st Q
theorem Kof.runs {todo : List It} (h : Kof P n todo st Q) : Runs P n todo st Q := by
  cases todo with
  | nil => exact h
  | cons x k => cases x <;> first | exact Runs.stop h | exact h
theorem TChain.mono {K K' : St → Prop} (hk : ∀ x, K x → K' x) : ∀ {l : List VIns} {x : St}, TChain P K l x → TChain P K' l x
  | [], _, h => hk _ h
  | _ :: _, _, h => T.mono (fun _ h => TChain.mono hk h) h
def Go (P : Program) (n : Nat) (t : Td) (st : St) (Q : St → Prop) : Prop :=
  match t with
  | .r todo => Kof P n todo st Q
  | .d l todo => TChain P (fun x => Kof P n todo x Q) l st
theorem Go.runs {todo : List It} (h : Go P n (.r todo) st Q) : Runs P n todo st Q := Kof.runs h
theorem Go.chain {l : List VIns} (h : Go P n (.d l k) st Q) : TChain P (fun x => Runs P n k x Q) l st := TChain.mono (fun _ h => Kof.runs h) h
def onSome {α : Type} (o : Option α) (k : α → Prop) : Prop := match o with
  | some v => k v
  | none => False
theorem onSome_some {α : Type} (v : α) (k : α → Prop) : onSome (some v) k = k v := rfl
theorem onSome_iff {α : Type} {o : Option α} {k : α → Prop} : onSome o k ↔ ∃ v, o = some v ∧ k v := by cases o <;> simp [onSome]
def onBool (v : V) (k : Bool → Prop) (z : Prop) : Prop := match v with
  | .bool c => k c
  | .tup [] => z
  | .int _ _ => z
  | _ => False
theorem onBool_cases {v : V} {k : Bool → Prop} {z : Prop} (h : onBool v k z) : (∃ c, v = .bool c ∧ k c) ∨ (v = .tup [] ∧ z) ∨ (∃ q m, v = .int q m ∧ z) := by
  unfold onBool at h
  split at h
  · exact .inl ⟨_, rfl, h⟩
  · exact .inr (.inl ⟨rfl, h⟩)
  · exact .inr (.inr ⟨_, _, rfl, h⟩)
  · exact h.elim
def both (c b : Bool) (x y : Prop) : Prop := (c = b → x) ∧ (c = !b → y)
def storeOp (s : Nat → V) (σ : Store) : VOp → Option Store
  | .store sz xa xv => storeS σ sz (xa.ev s) (xv.ev s)
  | _ => none
structure Orc (P : Program) where
  get : FuncId → List V → Store → Option V
  ok : ∀ f args σ v, get f args σ = some v → Contract P f args σ fun r σ' => r = v ∧ σ' = σ
  up : ∀ f args σ σ' v, SubStore σ σ' → get f args σ = some v → get f args σ' = some v := by intros; assumption
def Orc.nothing : Orc P where
  get _ _ _ := none
  ok _ _ _ _ h := by cases h
def callV (O : Orc P) (s : Nat → V) (σ : Store) : VOp → Option V
  | .call fx xs => match fx.ev s with
      | .fn f caps => O.get f (xs.map (·.ev s) ++ caps) σ
      | _ => none
  | _ => none
def onCall (o : Option V) (k : V → Prop) (z : Prop) : Prop := match o with
  | some v => k v
  | none => z
theorem onCall_cases {o : Option V} {k : V → Prop} {z : Prop} (h : onCall o k z) : (∃ v, o = some v ∧ k v) ∨ z := by
  cases o with
  | none => exact .inr h
  | some v => exact .inl ⟨v, rfl, h⟩
def onKind5 (q : Nat) (a b c d g : Prop) : Prop := match q with
  | 0 => a
  | 1 => b
  | 2 => c
  | 3 => d
  | _ => g
theorem onKind5_cases {q : Nat} {a b c d g : Prop} (h : onKind5 q a b c d g) : (q = 0 ∧ a) ∨ (q = 1 ∧ b) ∨ (q = 2 ∧ c) ∨ (q = 3 ∧ d) ∨ g := by
  unfold onKind5 at h
  split at h <;> simp_all
def insK (O : Orc P) (q : Nat) (d : Option Nat) (op : VOp) (st : St) (k : St → Prop) (z : Prop) : Prop :=
  onKind5 q (vpre st.s op ∧ onSome (vpure st.σ st.s op) fun v => k ⟨putO st.s d v, st.σ⟩)
    (onCall (callV O st.s st.σ op) (fun v => k ⟨putO st.s d v, st.σ⟩) z)
    (onSome (storeOp st.s st.σ op) fun σ' => k ⟨putO st.s d (.tup []), σ'⟩)
    (onSome (eff st.s st.σ op) fun g => ∀ id, st.σ id = none → k ⟨putO st.s d (g id).1, (g id).2⟩) z
def step (P : Program) (O : Orc P) (n : Nat) : Nat → Td → St → (St → Prop) → Prop
  | 0, t, st, Q => Go P n t st Q
  | f + 1, t, st, Q => match t with
    | .d l k => match l with
      | [] => step P O n f (.r k) st Q
      | i :: l => match i.g with
        | none => insK O (okind i.op) i.dst i.op st (fun st => step P O n f (.d l k) st Q) (Go P n (.d (i :: l) k) st Q)
        | some (x, b) => onBool (x.ev st.s) (fun c => both c b
            (insK O (okind i.op) i.dst i.op (st.lit x (.bool b)) (fun st => step P O n f (.d l k) st Q) (Go P n (.d (i :: l) k) (st.lit x (.bool b)) Q))
            (step P O n f (.d l k) ⟨putO (st.lit x (.bool !b)).s i.dst (.tup []), (st.lit x (.bool !b)).σ⟩ Q))
            (step P O n f (.d l k) ⟨putO st.s i.dst (.tup []), st.σ⟩ Q)
    | .r todo => match todo with
      | [] => Q st
      | .stop I :: _ => I st
      | .inBlock _ :: k => step P O n f (.r k) st Q
      | .ops [] :: k => step P O n f (.r k) st Q
      | .ops (i :: l) :: k => match i.g with
        | none => insK O (okind i.op) i.dst i.op st (fun st => step P O n f (.r (.ops l :: k)) st Q) (Runs P n (.ops (i :: l) :: k) st Q)
        | some (x, b) => onBool (x.ev st.s) (fun c => both c b
            (insK O (okind i.op) i.dst i.op (st.lit x (.bool b)) (fun st => step P O n f (.r (.ops l :: k)) st Q) (Runs P n (.ops (i :: l) :: k) (st.lit x (.bool b)) Q))
            (step P O n f (.r (.ops l :: k)) ⟨putO (st.lit x (.bool !b)).s i.dst (.tup []), (st.lit x (.bool !b)).σ⟩ Q))
            (step P O n f (.r (.ops l :: k)) ⟨putO st.s i.dst (.tup []), st.σ⟩ Q)
      | .code c :: k => match c with
        | .skip => step P O n f (.r k) st Q
        | .seq a b => step P O n f (.r (.code a :: .code b :: k)) st Q
        | .block id a => step P O n f (.r (.code a :: .inBlock id :: k)) st Q
        | .exit id => onSome (popTo id k) fun k' => step P O n f (.r k') st Q
        | .ret => Q st
        | .cond c a b => onBool (c.ev st.s) (fun t => both t true (step P O n f (.r (.code a :: k)) st Q) (step P O n f (.r (.code b :: k)) st Q)) False
        | .reg draw l => match draw with
          | false => step P O n f (.r (.ops l :: k)) st Q
          | true => step P O n f (.d l k) st Q
        | .loop a => Runs P n (.code (.loop a) :: k) st Q
        | .rangeF g ps a b => Runs P n (.code (.rangeF g ps a b) :: k) st Q
        | .regA l deps => Runs P n (.code (.regA l deps) :: k) st Q
        | .regL l e => step P O n f (.d l (.ops e :: k)) st Q
        | .bad => False
theorem lit_eq {st : St} {x : VX} {v : V} (h : x.ev st.s = v) : st.lit x v = st := by
  cases x with
  | t d =>
    simp only [VX.ev] at h
    have : putO st.s (some d) v = st.s := by
      funext i
      simp only [putO]
      split
      · rename_i e; rw [e, h]
      · rfl
    simp [St.lit, this]
  | c _ => rfl
theorem Runs.storeS {i : VIns} {l : List VIns} {sz : Nat} {xa xv : VX} (hw : wantV st.s i.g = some true) (ho : i.op = .store sz xa xv) {σ' : Store}
    (h1 : Vc.storeS st.σ sz (xa.ev st.s) (xv.ev st.s) = some σ') (h : Runs P n (.ops l :: k) ⟨putO st.s i.dst (.tup []), σ'⟩ Q) : Runs P n (.ops (i :: l) :: k) st Q := by
  unfold Vc.storeS at h1
  split at h1
  · rename_i id r0 c e1
    split at h1
    · rename_i ob e2
      split at h1
      · rename_i r e3
        split at h1
        · rename_i r' e4
          simp only [Option.some.injEq] at h1
          subst h1
          exact Runs.store hw ho e1 e2 e3 e4 h
        · cases h1
      · cases h1
    · cases h1
  · cases h1
theorem Runs.eff {i : VIns} {l : List VIns} (hw : wantV st.s i.g = some true) {g : Nat → V × Store} (hg : Vc.eff st.s st.σ i.op = some g)
    (h : ∀ id, st.σ id = none → Runs P n (.ops l :: k) ⟨putO st.s i.dst (g id).1, (g id).2⟩ Q) : Runs P n (.ops (i :: l) :: k) st Q := by
  cases hop : i.op <;> rw [hop] at hg <;> simp only [Vc.eff, reduceCtorEq] at hg
  case box e sz xv =>
    split at hg
    · rename_i hc
      simp only [Option.some.injEq] at hg
      subst hg
      exact Runs.box hw hop hc.1 hc.2 h
    · cases hg
  case alloc e sz z =>
    simp only [Option.some.injEq] at hg
    subst hg
    exact Runs.alloc hw hop h
  case bslice e sz xs =>
    split at hg
    · rename_i hc
      simp only [Option.some.injEq] at hg
      subst hg
      refine Runs.bslice hw hop (fun x hx => ?_) h
      have := List.all_eq_true.1 hc x hx
      simpa using this
    · cases hg
  case mk e sz bytes zv x =>
    split at hg
    · rename_i m hm
      split at hg
      · rename_i hc
        simp only [Option.some.injEq] at hg
        subst hg
        exact Runs.mkS hw hop hm hc.1 hc.2 h
      · cases hg
    · cases hg
  case appz e sz bytes zv y x =>
    split at hg
    · rename_i kq m hy hm
      split at hg
      · rename_i hc
        simp only [Option.some.injEq] at hg
        subst hg
        exact Runs.appzS hw hop hy hm hc.1 hc.2 h
      · cases hg
    · cases hg
  case append e sz bytes xa xb =>
    split at hg
    · rename_i base idA src e1 e2
      split at hg
      · rename_i hb
        simp only [Option.some.injEq] at hg
        subst hg
        exact Runs.append hw hop e1 e2 hb h
      · cases hg
    · cases hg
theorem T_true {i : VIns} {K : St → Prop} (hw : wantV st.s i.g = some true) (h : TO P i.dst i.op st K) : T P i st K := by unfold T; simp only [hw]; exact h
theorem T_false {i : VIns} {K : St → Prop} (hw : wantV st.s i.g = some false) (h : K ⟨putO st.s i.dst (.tup []), st.σ⟩) : T P i st K := by unfold T; simp only [hw]; exact h
theorem callV_some {O : Orc P} {s : Nat → V} {σ : Store} {op : VOp} {v : V} (h : callV O s σ op = some v) :
    ∃ fx xs f caps, op = .call fx xs ∧ fx.ev s = .fn f caps ∧ ∀ σ1, SubStore σ σ1 → Contract P f (xs.map (·.ev s) ++ caps) σ1 fun r σ' => r = v ∧ σ' = σ1 := by
  unfold callV at h
  split at h
  · rename_i fx xs
    split at h
    · rename_i f caps hf
      exact ⟨fx, xs, f, caps, rfl, hf, fun σ1 h1 => O.ok _ _ _ _ (O.up _ _ _ _ _ h1 h)⟩
    · cases h
  · cases h
theorem Runs.of_ins {O : Orc P} {i : VIns} {l : List VIns} {st : St} (hw : wantV st.s i.g = some true) {K : St → Prop} (hK : ∀ st, K st → Runs P n (.ops l :: k) st Q)
    (h : insK O (okind i.op) i.dst i.op st K (Runs P n (.ops (i :: l) :: k) st Q)) : Runs P n (.ops (i :: l) :: k) st Q := by
  unfold insK at h
  rcases onKind5_cases h with ⟨_, h1, h⟩ | ⟨_, h⟩ | ⟨_, h⟩ | ⟨_, h⟩ | h
  · obtain ⟨v, hv, h⟩ := onSome_iff.1 h
    exact Runs.pure hw h1 hv (hK _ h)
  · rcases onCall_cases h with ⟨v, hv, h⟩ | h
    · obtain ⟨fx, xs, f, caps, ho, hf, hc⟩ := callV_some hv
      refine Runs.call hw ho hf (hc _ (SubStore.refl _)) ?_
      rintro r σ' ⟨rfl, rfl⟩
      exact hK _ h
    · exact h
  · obtain ⟨σ', hs, h⟩ := onSome_iff.1 h
    cases hop : i.op <;> rw [hop] at hs <;> simp only [storeOp, reduceCtorEq] at hs
    exact Runs.storeS hw hop hs (hK _ h)
  · obtain ⟨g, hgg, h⟩ := onSome_iff.1 h
    exact Runs.eff hw hgg fun id hid => hK _ (h id hid)
  · exact h
theorem Go.of_ins {O : Orc P} {i : VIns} {l : List VIns} {st : St} (hw : wantV st.s i.g = some true) {K : St → Prop} (hK : ∀ st, K st → Go P n (.d l k) st Q)
    (h : insK O (okind i.op) i.dst i.op st K (Go P n (.d (i :: l) k) st Q)) : Go P n (.d (i :: l) k) st Q := by
  unfold insK at h
  rcases onKind5_cases h with ⟨hk, h1, h⟩ | ⟨hk, h⟩ | ⟨_, h⟩ | ⟨hk, h⟩ | h
  · obtain ⟨v, hv, h⟩ := onSome_iff.1 h
    refine T_true hw ?_
    unfold TO
    simp only [hk]
    exact ⟨h1, v, hv, hK _ h⟩
  · rcases onCall_cases h with ⟨v, hv, h⟩ | h
    · obtain ⟨fx, xs, f, caps, ho, hf, hc⟩ := callV_some hv
      refine T_true hw ?_
      rw [ho]
      exact ⟨f, caps, v, hf, hc, hK _ h⟩
    · exact h
  · obtain ⟨σ', hs, h⟩ := onSome_iff.1 h
    refine T_true hw ?_
    cases hop : i.op <;> rw [hop] at hs <;> simp only [storeOp, reduceCtorEq] at hs
    exact ⟨σ', hs, hK _ h⟩
  · obtain ⟨g, hgg, h⟩ := onSome_iff.1 h
    refine T_true hw ?_
    unfold TO
    simp only [hk]
    exact ⟨g, hgg, fun id hid => hK _ (h id hid)⟩
  · exact h
theorem Go.of_step (O : Orc P) : ∀ (f : Nat) (t : Td) (st : St), step P O n f t st Q → Go P n t st Q
  | 0, _, _, h => h
  | f + 1, .d [] k, st, h => Go.of_step O f (.r k) st h
  | f + 1, .d (i :: l) k, st, h => by
    simp only [step] at h
    split at h
    · rename_i hg
      have hw : wantV st.s i.g = some true := by simp [hg, wantV]
      exact Go.of_ins hw (fun st h => Go.of_step O f (.d l k) st h) h
    · rename_i x b hg
      rcases onBool_cases h with ⟨c, hc, h⟩ | ⟨hc, h⟩ | ⟨q, m, hc, h⟩
      · by_cases hcb : c = b
        · subst hcb
          have h1 := h.1 rfl
          have hw : wantV st.s i.g = some true := by simp [hg, wantV, hc]
          rw [lit_eq hc] at h1
          exact Go.of_ins hw (fun st h => Go.of_step O f (.d l k) st h) h1
        · have hcb' : c = !b := by revert hcb; cases c <;> cases b <;> simp
          have h2 := h.2 hcb'
          rw [lit_eq (by rw [hc, hcb'])] at h2
          exact T_false (by simp only [hg, wantV, hc]; rw [hcb']; cases b <;> rfl) (Go.of_step O f (.d l k) _ h2)
      · exact T_false (by simp [hg, wantV, hc]) (Go.of_step O f (.d l k) _ h)
      · exact T_false (by simp [hg, wantV, hc]) (Go.of_step O f (.d l k) _ h)
  | f + 1, .r [], _, h => Runs.nil h
  | f + 1, .r (.stop _ :: _), _, h => h
  | f + 1, .r (.inBlock _ :: k), st, h => Runs.inBlock (Go.of_step O f (.r k) st h).runs
  | f + 1, .r (.ops [] :: k), st, h => Runs.ops_nil (Go.of_step O f (.r k) st h).runs
  | f + 1, .r (.ops (i :: l) :: k), st, h => by
    simp only [step] at h
    split at h
    · rename_i hg
      have hw : wantV st.s i.g = some true := by simp [hg, wantV]
      exact Runs.of_ins hw (fun st h => (Go.of_step O f (.r (.ops l :: k)) st h).runs) h
    · rename_i x b hg
      rcases onBool_cases h with ⟨c, hc, h⟩ | ⟨hc, h⟩ | ⟨q, m, hc, h⟩
      · by_cases hcb : c = b
        · subst hcb
          have h1 := h.1 rfl
          have hw : wantV st.s i.g = some true := by simp [hg, wantV, hc]
          rw [lit_eq hc] at h1
          exact Runs.of_ins hw (fun st h => (Go.of_step O f (.r (.ops l :: k)) st h).runs) h1
        · have hcb' : c = !b := by revert hcb; cases c <;> cases b <;> simp
          have h2 := h.2 hcb'
          rw [lit_eq (by rw [hc, hcb'])] at h2
          exact Runs.skipIns (by simp only [hg, wantV, hc]; rw [hcb']; cases b <;> rfl) (Go.of_step O f (.r (.ops l :: k)) _ h2).runs
      · exact Runs.skipIns (by simp [hg, wantV, hc]) (Go.of_step O f (.r (.ops l :: k)) _ h).runs
      · exact Runs.skipIns (by simp [hg, wantV, hc]) (Go.of_step O f (.r (.ops l :: k)) _ h).runs
  | f + 1, .r (.code c :: k), st, h => by
    cases c with
    | skip => exact Runs.skip (Go.of_step O f (.r _) _ h).runs
    | seq a b => exact Runs.seq (Go.of_step O f (.r _) _ h).runs
    | block id a => exact Runs.block (Go.of_step O f (.r _) _ h).runs
    | exit id =>
      simp only [step] at h
      obtain ⟨k', hk', h⟩ := onSome_iff.1 h
      exact Runs.exit hk' (Go.of_step O f (.r _) _ h).runs
    | ret => exact Runs.ret h
    | cond c a b =>
      simp only [step] at h
      rcases onBool_cases h with ⟨t, ht, h⟩ | ⟨_, h⟩ | ⟨_, _, _, h⟩
      · exact Runs.cond ht (fun e => (Go.of_step O f (.r _) _ (h.1 e)).runs) (fun e => (Go.of_step O f (.r _) _ (h.2 (by rw [e]; rfl))).runs)
      · exact h.elim
      · exact h.elim
    | reg draw l =>
      cases draw
      · exact Runs.region (Go.of_step O f (.r _) _ h).runs
      · exact Runs.dregion (Go.of_step O f (.d l k) _ h).chain
    | loop a => exact h
    | rangeF g ps a b => exact h
    | regA l deps => exact h
    | regL l e => exact Runs.regL (Go.of_step O f (.d l (.ops e :: k)) _ h).chain
    | bad => exact h.elim
theorem Runs.of_step (O : Orc P) (f : Nat) {todo : List It} {st : St} (h : step P O n f (.r todo) st Q) : Runs P n todo st Q := (Go.of_step O f (.r todo) st h).runs
section rules
variable (P : Program) (O : Orc P) (n : Nat) (f : Nat)
def exR (o : Option (List It)) (st : St) (Q : St → Prop) : Prop := onSome o fun k' => step P O n f (.r k') st Q
def cR (v : V) (a b : VCode) (k : List It) (st : St) (Q : St → Prop) : Prop := onBool v (fun t => both t true (step P O n f (.r (.code a :: k)) st Q) (step P O n f (.r (.code b :: k)) st Q)) False
def contR (l : List VIns) (k : List It) (d : Option Nat) (st : St) (Q : St → Prop) (o : Option V) : Prop := onSome o fun v => step P O n f (.r (.ops l :: k)) ⟨putO st.s d v, st.σ⟩ Q
def storeR (l : List VIns) (k : List It) (d : Option Nat) (st : St) (Q : St → Prop) (o : Option Store) : Prop := onSome o fun σ' => step P O n f (.r (.ops l :: k)) ⟨putO st.s d (.tup []), σ'⟩ Q
def effR (l : List VIns) (k : List It) (d : Option Nat) (st : St) (Q : St → Prop) (o : Option (Nat → V × Store)) : Prop :=
  onSome o fun g => ∀ id, st.σ id = none → step P O n f (.r (.ops l :: k)) ⟨putO st.s d (g id).1, (g id).2⟩ Q
def callR (l : List VIns) (k : List It) (d : Option Nat) (op : VOp) (g : Option (VX × Bool)) (st : St) (Q : St → Prop) (o : Option V) : Prop :=
  onCall o (fun v => step P O n f (.r (.ops l :: k)) ⟨putO st.s d v, st.σ⟩ Q) (Runs P n (.ops (⟨d, op, g⟩ :: l) :: k) st Q)
def insR (q : Nat) (d : Option Nat) (op : VOp) (g : Option (VX × Bool)) (l : List VIns) (k : List It) (st : St) (Q : St → Prop) : Prop :=
  insK O q d op st (fun st => step P O n f (.r (.ops l :: k)) st Q) (Runs P n (.ops (⟨d, op, g⟩ :: l) :: k) st Q)
def gR (v : V) (d : Option Nat) (op : VOp) (x : VX) (b : Bool) (l : List VIns) (k : List It) (st : St) (Q : St → Prop) : Prop :=
  onBool v (fun c => both c b (insR P O n f (okind op) d op (some (x, b)) l k (st.lit x (.bool b)) Q)
    (step P O n f (.r (.ops l :: k)) ⟨putO (st.lit x (.bool !b)).s d (.tup []), (st.lit x (.bool !b)).σ⟩ Q)) (step P O n f (.r (.ops l :: k)) ⟨putO st.s d (.tup []), st.σ⟩ Q)
def contD (l : List VIns) (k : List It) (d : Option Nat) (st : St) (Q : St → Prop) (o : Option V) : Prop := onSome o fun v => step P O n f (.d l k) ⟨putO st.s d v, st.σ⟩ Q
def storeD (l : List VIns) (k : List It) (d : Option Nat) (st : St) (Q : St → Prop) (o : Option Store) : Prop := onSome o fun σ' => step P O n f (.d l k) ⟨putO st.s d (.tup []), σ'⟩ Q
def effD (l : List VIns) (k : List It) (d : Option Nat) (st : St) (Q : St → Prop) (o : Option (Nat → V × Store)) : Prop :=
  onSome o fun g => ∀ id, st.σ id = none → step P O n f (.d l k) ⟨putO st.s d (g id).1, (g id).2⟩ Q
def callD (l : List VIns) (k : List It) (d : Option Nat) (op : VOp) (g : Option (VX × Bool)) (st : St) (Q : St → Prop) (o : Option V) : Prop :=
  onCall o (fun v => step P O n f (.d l k) ⟨putO st.s d v, st.σ⟩ Q) (Go P n (.d (⟨d, op, g⟩ :: l) k) st Q)
def insD (q : Nat) (d : Option Nat) (op : VOp) (g : Option (VX × Bool)) (l : List VIns) (k : List It) (st : St) (Q : St → Prop) : Prop :=
  insK O q d op st (fun st => step P O n f (.d l k) st Q) (Go P n (.d (⟨d, op, g⟩ :: l) k) st Q)
def gD (v : V) (d : Option Nat) (op : VOp) (x : VX) (b : Bool) (l : List VIns) (k : List It) (st : St) (Q : St → Prop) : Prop :=
  onBool v (fun c => both c b (insD P O n f (okind op) d op (some (x, b)) l k (st.lit x (.bool b)) Q)
    (step P O n f (.d l k) ⟨putO (st.lit x (.bool !b)).s d (.tup []), (st.lit x (.bool !b)).σ⟩ Q)) (step P O n f (.d l k) ⟨putO st.s d (.tup []), st.σ⟩ Q)
variable {P O n} {f}
theorem putO_some (s : Nat → V) (d : Nat) (v : V) (i : Nat) : putO s (some d) v i = if i = d then v else s i := rfl
theorem putO_none (s : Nat → V) (v : V) (i : Nat) : putO s none v i = s i := rfl
theorem lit_t (st : St) (d : Nat) (v : V) : st.lit (.t d) v = ⟨putO st.s (some d) v, st.σ⟩ := rfl
theorem lit_c (st : St) (u v : V) : st.lit (.c u) v = st := rfl
theorem ev_t (s : Nat → V) (d : Nat) : VX.ev s (.t d) = s d := rfl
theorem ev_c (s : Nat → V) (v : V) : VX.ev s (.c v) = v := rfl
theorem insR_0 (d : Option Nat) (op : VOp) (g : Option (VX × Bool)) (l : List VIns) : insR P O n f 0 d op g l k st Q = (vpre st.s op ∧ contR P O n f l k d st Q (vpure st.σ st.s op)) := rfl
theorem insR_1 (d : Option Nat) (op : VOp) (g : Option (VX × Bool)) (l : List VIns) : insR P O n f 1 d op g l k st Q = callR P O n f l k d op g st Q (callV O st.s st.σ op) := rfl
theorem insR_2 (d : Option Nat) (op : VOp) (g : Option (VX × Bool)) (l : List VIns) : insR P O n f 2 d op g l k st Q = storeR P O n f l k d st Q (storeOp st.s st.σ op) := rfl
theorem insR_3 (d : Option Nat) (op : VOp) (g : Option (VX × Bool)) (l : List VIns) : insR P O n f 3 d op g l k st Q = effR P O n f l k d st Q (eff st.s st.σ op) := rfl
theorem insR_4 (d : Option Nat) (op : VOp) (g : Option (VX × Bool)) (l : List VIns) : insR P O n f 4 d op g l k st Q = Runs P n (.ops (⟨d, op, g⟩ :: l) :: k) st Q := rfl
theorem callR_some (d : Option Nat) (op : VOp) (g : Option (VX × Bool)) (l : List VIns) (v : V) : callR P O n f l k d op g st Q (some v) = step P O n f (.r (.ops l :: k)) ⟨putO st.s d v, st.σ⟩ Q := rfl
theorem callR_none (d : Option Nat) (op : VOp) (g : Option (VX × Bool)) (l : List VIns) : callR P O n f l k d op g st Q none = Runs P n (.ops (⟨d, op, g⟩ :: l) :: k) st Q := rfl
theorem callV_eq (s : Nat → V) (σ : Store) (fx : VX) (xs : List VX) : callV O s σ (.call fx xs) = match fx.ev s with
      | .fn f caps => O.get f (xs.map (·.ev s) ++ caps) σ
      | _ => none := rfl
theorem insD_0 (d : Option Nat) (op : VOp) (g : Option (VX × Bool)) (l : List VIns) : insD P O n f 0 d op g l k st Q = (vpre st.s op ∧ contD P O n f l k d st Q (vpure st.σ st.s op)) := rfl
theorem insD_1 (d : Option Nat) (op : VOp) (g : Option (VX × Bool)) (l : List VIns) : insD P O n f 1 d op g l k st Q = callD P O n f l k d op g st Q (callV O st.s st.σ op) := rfl
theorem insD_2 (d : Option Nat) (op : VOp) (g : Option (VX × Bool)) (l : List VIns) : insD P O n f 2 d op g l k st Q = storeD P O n f l k d st Q (storeOp st.s st.σ op) := rfl
theorem insD_3 (d : Option Nat) (op : VOp) (g : Option (VX × Bool)) (l : List VIns) : insD P O n f 3 d op g l k st Q = effD P O n f l k d st Q (eff st.s st.σ op) := rfl
theorem callD_some (d : Option Nat) (op : VOp) (g : Option (VX × Bool)) (l : List VIns) (v : V) : callD P O n f l k d op g st Q (some v) = step P O n f (.d l k) ⟨putO st.s d v, st.σ⟩ Q := rfl
theorem callD_none (d : Option Nat) (op : VOp) (g : Option (VX × Bool)) (l : List VIns) : callD P O n f l k d op g st Q none = Go P n (.d (⟨d, op, g⟩ :: l) k) st Q := rfl
theorem s_r_nil : step P O n (f + 1) (.r []) st Q = Q st := rfl
theorem s_r_stop (I : St → Prop) : step P O n (f + 1) (.r (.stop I :: k)) st Q = I st := rfl
theorem s_r_inBlock (id : Nat) : step P O n (f + 1) (.r (.inBlock id :: k)) st Q = step P O n f (.r k) st Q := rfl
theorem s_r_ops_nil : step P O n (f + 1) (.r (.ops [] :: k)) st Q = step P O n f (.r k) st Q := rfl
theorem s_r_skip : step P O n (f + 1) (.r (.code .skip :: k)) st Q = step P O n f (.r k) st Q := rfl
theorem s_r_seq (a b : VCode) : step P O n (f + 1) (.r (.code (.seq a b) :: k)) st Q = step P O n f (.r (.code a :: .code b :: k)) st Q := rfl
theorem s_r_block (id : Nat) (a : VCode) : step P O n (f + 1) (.r (.code (.block id a) :: k)) st Q = step P O n f (.r (.code a :: .inBlock id :: k)) st Q := rfl
theorem s_r_exit (id : Nat) : step P O n (f + 1) (.r (.code (.exit id) :: k)) st Q = exR P O n f (popTo id k) st Q := rfl
theorem exR_some (k' : List It) : exR P O n f (some k') st Q = step P O n f (.r k') st Q := rfl
theorem s_r_ret : step P O n (f + 1) (.r (.code .ret :: k)) st Q = Q st := rfl
theorem s_r_loop (a : VCode) : step P O n (f + 1) (.r (.code (.loop a) :: k)) st Q = Runs P n (.code (.loop a) :: k) st Q := rfl
theorem s_r_regL (l e : List VIns) : step P O n (f + 1) (.r (.code (.regL l e) :: k)) st Q = step P O n f (.d l (.ops e :: k)) st Q := rfl
theorem s_r_rangeF (g : VX) (ps : List Nat) (a b : VCode) : step P O n (f + 1) (.r (.code (.rangeF g ps a b) :: k)) st Q = Runs P n (.code (.rangeF g ps a b) :: k) st Q := rfl
theorem s_r_reg (l : List VIns) : step P O n (f + 1) (.r (.code (.reg false l) :: k)) st Q = step P O n f (.r (.ops l :: k)) st Q := rfl
theorem s_r_dreg (l : List VIns) : step P O n (f + 1) (.r (.code (.reg true l) :: k)) st Q = step P O n f (.d l k) st Q := rfl
theorem s_d_nil : step P O n (f + 1) (.d [] k) st Q = step P O n f (.r k) st Q := rfl
theorem s_r_cond (c : VX) (a b : VCode) : step P O n (f + 1) (.r (.code (.cond c a b) :: k)) st Q = cR P O n f (c.ev st.s) a b k st Q := rfl
theorem cR_t (a b : VCode) : cR P O n f (.bool true) a b k st Q = step P O n f (.r (.code a :: k)) st Q := by simp [cR, onBool, both]
theorem cR_f (a b : VCode) : cR P O n f (.bool false) a b k st Q = step P O n f (.r (.code b :: k)) st Q := by simp [cR, onBool, both]
theorem cR_dec (p : Prop) [Decidable p] (a b : VCode) : cR P O n f (.bool (decide p)) a b k st Q = ((p → step P O n f (.r (.code a :: k)) st Q) ∧ (¬ p → step P O n f (.r (.code b :: k)) st Q)) := by simp [cR, onBool, both]
theorem s_r_ins (d : Option Nat) (op : VOp) (l : List VIns) : step P O n (f + 1) (.r (.ops (⟨d, op, none⟩ :: l) :: k)) st Q = insR P O n f (okind op) d op none l k st Q := rfl
theorem contR_some (d : Option Nat) (l : List VIns) (v : V) : contR P O n f l k d st Q (some v) = step P O n f (.r (.ops l :: k)) ⟨putO st.s d v, st.σ⟩ Q := rfl
theorem storeR_some (d : Option Nat) (l : List VIns) (σ' : Store) : storeR P O n f l k d st Q (some σ') = step P O n f (.r (.ops l :: k)) ⟨putO st.s d (.tup []), σ'⟩ Q := rfl
theorem effR_some (d : Option Nat) (l : List VIns) (g : Nat → V × Store) : effR P O n f l k d st Q (some g) = ∀ id, st.σ id = none → step P O n f (.r (.ops l :: k)) ⟨putO st.s d (g id).1, (g id).2⟩ Q := rfl
theorem s_d_ins (d : Option Nat) (op : VOp) (l : List VIns) : step P O n (f + 1) (.d (⟨d, op, none⟩ :: l) k) st Q = insD P O n f (okind op) d op none l k st Q := rfl
theorem contD_some (d : Option Nat) (l : List VIns) (v : V) : contD P O n f l k d st Q (some v) = step P O n f (.d l k) ⟨putO st.s d v, st.σ⟩ Q := rfl
theorem storeD_some (d : Option Nat) (l : List VIns) (σ' : Store) : storeD P O n f l k d st Q (some σ') = step P O n f (.d l k) ⟨putO st.s d (.tup []), σ'⟩ Q := rfl
theorem effD_some (d : Option Nat) (l : List VIns) (g : Nat → V × Store) : effD P O n f l k d st Q (some g) = ∀ id, st.σ id = none → step P O n f (.d l k) ⟨putO st.s d (g id).1, (g id).2⟩ Q := rfl
theorem s_r_gins (d : Option Nat) (op : VOp) (x : VX) (b : Bool) (l : List VIns) : step P O n (f + 1) (.r (.ops (⟨d, op, some (x, b)⟩ :: l) :: k)) st Q = gR P O n f (x.ev st.s) d op x b l k st Q := rfl
theorem gR_tup (d : Option Nat) (op : VOp) (x : VX) (b : Bool) (l : List VIns) : gR P O n f (.tup []) d op x b l k st Q = step P O n f (.r (.ops l :: k)) ⟨putO st.s d (.tup []), st.σ⟩ Q := rfl
theorem gR_tt (d : Option Nat) (op : VOp) (x : VX) (l : List VIns) : gR P O n f (.bool true) d op x true l k st Q = insR P O n f (okind op) d op (some (x, true)) l k (st.lit x (.bool true)) Q := by simp [gR, onBool, both]
theorem gR_ff (d : Option Nat) (op : VOp) (x : VX) (l : List VIns) : gR P O n f (.bool false) d op x false l k st Q = insR P O n f (okind op) d op (some (x, false)) l k (st.lit x (.bool false)) Q := by simp [gR, onBool, both]
theorem gR_tf (d : Option Nat) (op : VOp) (x : VX) (l : List VIns) : gR P O n f (.bool true) d op x false l k st Q = step P O n f (.r (.ops l :: k)) ⟨putO (st.lit x (.bool true)).s d (.tup []), (st.lit x (.bool true)).σ⟩ Q := by simp [gR, onBool, both]
theorem gR_ft (d : Option Nat) (op : VOp) (x : VX) (l : List VIns) : gR P O n f (.bool false) d op x true l k st Q = step P O n f (.r (.ops l :: k)) ⟨putO (st.lit x (.bool false)).s d (.tup []), (st.lit x (.bool false)).σ⟩ Q := by simp [gR, onBool, both]
theorem gR_dec_t (p : Prop) [Decidable p] (d : Option Nat) (op : VOp) (x : VX) (l : List VIns) : gR P O n f (.bool (decide p)) d op x true l k st Q =
    ((p → insR P O n f (okind op) d op (some (x, true)) l k (st.lit x (.bool true)) Q) ∧ (¬ p → step P O n f (.r (.ops l :: k)) ⟨putO (st.lit x (.bool false)).s d (.tup []), (st.lit x (.bool false)).σ⟩ Q)) := by simp [gR, onBool, both]
theorem gR_dec_f (p : Prop) [Decidable p] (d : Option Nat) (op : VOp) (x : VX) (l : List VIns) : gR P O n f (.bool (decide p)) d op x false l k st Q =
    ((¬ p → insR P O n f (okind op) d op (some (x, false)) l k (st.lit x (.bool false)) Q) ∧ (p → step P O n f (.r (.ops l :: k)) ⟨putO (st.lit x (.bool true)).s d (.tup []), (st.lit x (.bool true)).σ⟩ Q)) := by simp [gR, onBool, both]
theorem s_d_gins (d : Option Nat) (op : VOp) (x : VX) (b : Bool) (l : List VIns) : step P O n (f + 1) (.d (⟨d, op, some (x, b)⟩ :: l) k) st Q = gD P O n f (x.ev st.s) d op x b l k st Q := rfl
theorem gD_tup (d : Option Nat) (op : VOp) (x : VX) (b : Bool) (l : List VIns) : gD P O n f (.tup []) d op x b l k st Q = step P O n f (.d l k) ⟨putO st.s d (.tup []), st.σ⟩ Q := rfl
theorem gD_tt (d : Option Nat) (op : VOp) (x : VX) (l : List VIns) : gD P O n f (.bool true) d op x true l k st Q = insD P O n f (okind op) d op (some (x, true)) l k (st.lit x (.bool true)) Q := by simp [gD, onBool, both]
theorem gD_ff (d : Option Nat) (op : VOp) (x : VX) (l : List VIns) : gD P O n f (.bool false) d op x false l k st Q = insD P O n f (okind op) d op (some (x, false)) l k (st.lit x (.bool false)) Q := by simp [gD, onBool, both]
theorem gD_tf (d : Option Nat) (op : VOp) (x : VX) (l : List VIns) : gD P O n f (.bool true) d op x false l k st Q = step P O n f (.d l k) ⟨putO (st.lit x (.bool true)).s d (.tup []), (st.lit x (.bool true)).σ⟩ Q := by simp [gD, onBool, both]
theorem gD_ft (d : Option Nat) (op : VOp) (x : VX) (l : List VIns) : gD P O n f (.bool false) d op x true l k st Q = step P O n f (.d l k) ⟨putO (st.lit x (.bool false)).s d (.tup []), (st.lit x (.bool false)).σ⟩ Q := by simp [gD, onBool, both]
theorem gD_dec_t (p : Prop) [Decidable p] (d : Option Nat) (op : VOp) (x : VX) (l : List VIns) : gD P O n f (.bool (decide p)) d op x true l k st Q =
    ((p → insD P O n f (okind op) d op (some (x, true)) l k (st.lit x (.bool true)) Q) ∧ (¬ p → step P O n f (.d l k) ⟨putO (st.lit x (.bool false)).s d (.tup []), (st.lit x (.bool false)).σ⟩ Q)) := by simp [gD, onBool, both]
theorem gD_dec_f (p : Prop) [Decidable p] (d : Option Nat) (op : VOp) (x : VX) (l : List VIns) : gD P O n f (.bool (decide p)) d op x false l k st Q =
    ((¬ p → insD P O n f (okind op) d op (some (x, false)) l k (st.lit x (.bool false)) Q) ∧ (p → step P O n f (.d l k) ⟨putO (st.lit x (.bool true)).s d (.tup []), (st.lit x (.bool true)).σ⟩ Q)) := by simp [gD, onBool, both]
end rules
def PFun (P : Program) (f : FuncId) (args : List V) (v : V) : Prop := ∀ σ, Contract P f args σ fun r σ' => r = v ∧ σ' = σ
end Go.Vc
namespace Go.Vc
variable {P : Program} {n : Nat} {st : St} {Q : St → Prop} {k : List It}
def nost : Store := fun _ => none
theorem nost_sub (σ : Store) : SubStore nost σ := fun _ _ h => by simp [nost] at h
def V.lone : V → Bool
  | .int .. | .bool _ | .str _ => true
  | _ => false
def V.scalar : V → Bool
  | .tup vs => vs.all V.lone
  | .agg vs => vs.all V.lone
  | v => v.lone
theorem Rep.lone {μ μ' : Mu} {ow ow' : Nat → Prop} {w w' : World} {v : V} {x : Value} (hv : v.lone = true) (h : Rep μ ow w v x) : Rep μ' ow' w' v x := by
  cases v <;> simp only [V.lone, Bool.false_eq_true] at hv <;> simpa [Rep] using h
theorem RepAll.lones {μ μ' : Mu} {ow ow' : Nat → Prop} {w w' : World} : ∀ {vs : List V} {l : List Value}, vs.all V.lone = true → RepAll μ ow w vs l → RepAll μ' ow' w' vs l
  | [], l, _, h => by simpa [RepAll] using h
  | u :: us, l, hv, h => by
    simp only [List.all_cons, Bool.and_eq_true] at hv
    simp only [RepAll] at h ⊢
    obtain ⟨y, ys, rfl, h1, h2⟩ := h
    exact ⟨y, ys, rfl, Rep.lone hv.1 h1, RepAll.lones hv.2 h2⟩
theorem Rep.scalar {μ μ' : Mu} {ow ow' : Nat → Prop} {w w' : World} {v : V} {x : Value} (hv : v.scalar = true) (h : Rep μ ow w v x) : Rep μ' ow' w' v x := by
  by_cases ht : ∃ vs, v = .tup vs
  · obtain ⟨vs, rfl⟩ := ht
    simp only [Rep] at h ⊢
    obtain ⟨vals, rfl, h⟩ := h
    exact ⟨vals, rfl, RepAll.lones hv h⟩
  · by_cases ha : ∃ vs, v = .agg vs
    · obtain ⟨vs, rfl⟩ := ha
      simp only [Rep] at h ⊢
      obtain ⟨vals, rfl, h, h2⟩ := h
      exact ⟨vals, rfl, RepAll.lones hv h, h2⟩
    · refine Rep.lone ?_ h
      cases v <;> simp_all [V.scalar]
theorem PFun.borrow {f : FuncId} {args args' : List V} {v : V} {σ : Store} (hw : WkL σ nost args args') (h : PFun P f args' v) (hv : v.scalar = true) :
    Contract P f args σ fun r σ' => r = v ∧ σ' = σ := by
  refine ⟨(h nost).1, ?_⟩
  intro μ w vals hs hr
  have hs0 : Sat w (Owned μ nost) μ nost w := by
    have := hs.drop (nost_sub σ)
    exact ⟨Nat.le_refl _, rfl, rfl, rfl, fun _ _ _ => rfl, this.fin, this.inj, this.obj, fun b hb _ => hb, this.globHere⟩
  refine ((h nost).2 μ w vals hs0 (WkL.all hs hw hr)).mono ?_
  rintro e w' ⟨r, σ', μ', val, rfl, ⟨rfl, rfl⟩, hle, hs', hrep⟩
  have hno : ∀ b, ¬ Owned μ nost b := fun b ⟨_, _, _, _, h, _⟩ => by simp [nost] at h
  have hsame : ∀ b, b < w.heap.size → w'.heap[b]? = w.heap[b]? := fun b hb => hs'.same b hb (hno b)
  have hborn : ∀ id o, σ id = some o → μ' id = μ id := fun id o ho => hle id (fun e => by
    have := hs.obj id o ho; rw [e] at this; exact this)
  have hown : ∀ b, Owned μ' σ b → Owned μ σ b := fun b ⟨id, o, sz, cap, h1, h2⟩ => ⟨id, o, sz, cap, h1, hborn id o h1 ▸ h2⟩
  have hk : Keeps (Owned μ σ) (Owned μ' σ) w w' := fun b hb hn => ⟨fun ho => hn (hown b ho), hsame b hb⟩
  refine ⟨_, σ, μ', val, rfl, ⟨rfl, rfl⟩, hle, ?_, Rep.scalar hv hrep⟩
  refine ⟨hs'.size, hs'.os, hs'.tape, hs'.output, fun b hb _ => hsame b hb, hs'.fin, ?_, ?_, fun b hb _ => hown b hb, hs.glob⟩
  · intro id id' o o' b sz cap sz' cap' h1 h2 h3 h4
    exact hs.inj id id' o o' b sz cap sz' cap' h1 h2 (hborn id o h1 ▸ h3) (hborn id' o' h2 ▸ h4)
  · intro id o ho
    rw [hborn id o ho]
    refine (hs.obj id o ho).mono hle hk hs'.size fun b sz cap hp => hsame b ?_
    exact Owned.lt hs ⟨id, o, sz, cap, ho, hp⟩
def RetV (v : V) (σ : Store) (Post : V → Store → Prop) : Prop := ∃ v' σ', SubStore σ' σ ∧ Wk σ σ' v v' ∧ Post v' σ'
theorem Ret_one {s : Nat → V} {σ : Store} {d : Nat} {Post : V → Store → Prop} : Ret [.tmp (.t d)] ⟨s, σ⟩ Post = RetV (s d) σ Post := by
  apply propext
  simp only [Ret, RetV, resV, resAll, resOne, VX.ev]
  constructor
  · rintro ⟨v, v', σ', h1, h2⟩; simp only [Option.some.injEq] at h1; subst h1; exact ⟨v', σ', h2⟩
  · rintro ⟨v', σ', h2⟩; exact ⟨_, v', σ', rfl, h2⟩
theorem Ret_two {s : Nat → V} {σ : Store} {d e : Nat} {Post : V → Store → Prop} : Ret [.tmp (.t d), .tmp (.t e)] ⟨s, σ⟩ Post = RetV (.tup [s d, s e]) σ Post := by
  apply propext
  simp only [Ret, RetV, resV, resAll, resOne, VX.ev]
  constructor
  · rintro ⟨v, v', σ', h1, h2⟩; simp only [Option.some.injEq] at h1; subst h1; exact ⟨v', σ', h2⟩
  · rintro ⟨v', σ', h2⟩; exact ⟨_, v', σ', rfl, h2⟩
theorem Ret_three {s : Nat → V} {σ : Store} {d e g : Nat} {Post : V → Store → Prop} : Ret [.tmp (.t d), .tmp (.t e), .tmp (.t g)] ⟨s, σ⟩ Post = RetV (.tup [s d, s e, s g]) σ Post := by
  apply propext
  simp only [Ret, RetV, resV, resAll, resOne, VX.ev]
  constructor
  · rintro ⟨v, v', σ', h1, h2⟩; simp only [Option.some.injEq] at h1; subst h1; exact ⟨v', σ', h2⟩
  · rintro ⟨v', σ', h2⟩; exact ⟨_, v', σ', rfl, h2⟩
theorem Ret_none {st : St} {Post : V → Store → Prop} : Ret [] st Post = RetV (.tup []) st.σ Post := by
  apply propext
  simp only [Ret, RetV, resV, resAll]
  constructor
  · rintro ⟨v, v', σ', h1, h2⟩; simp only [Option.some.injEq] at h1; subst h1; exact ⟨v', σ', h2⟩
  · rintro ⟨v', σ', h2⟩; exact ⟨_, v', σ', rfl, h2⟩
theorem RetV.pure {v v0 : V} {σ σ1 : Store} (h : SubStore σ σ1) (hv : v = v0) : RetV v σ1 fun r σ' => r = v0 ∧ σ' = σ :=
  ⟨v, σ, h, Wk.refl h v, hv, rfl⟩
theorem RetV.same {v v0 : V} {σ : Store} (hv : v = v0) : RetV v σ fun r σ' => r = v0 ∧ σ' = σ := .pure (SubStore.refl σ) hv
theorem upd_same {σ : Store} {id : Nat} {o : Ob} : upd σ id o id = some o := by simp [upd]
theorem upd_ne {σ : Store} {id i : Nat} {o : Ob} (h : i ≠ id) : upd σ id o i = σ i := by simp [upd, h]
theorem del_ne {σ : Store} {id i : Nat} (h : i ≠ id) : del σ id i = σ i := by simp [del, h]
theorem upd_upd {σ : Store} {id : Nat} {a b : Ob} : upd (upd σ id a) id b = upd σ id b := by
  funext i; simp only [upd]; split <;> rfl
theorem del_upd {σ : Store} {id : Nat} {a : Ob} (h : σ id = none) : del (upd σ id a) id = σ := by
  funext i; simp only [del, upd]; split
  · rename_i e; rw [e, h]
  · rfl
theorem SubStore.upd {σ' σ : Store} {id : Nat} {o : Ob} (h : SubStore σ' σ) (hid : σ id = none) : SubStore σ' (Vc.upd σ id o) :=
  h.upd_new (by
    cases hs : σ' id with
    | none => rfl
    | some x => have := h id x hs; rw [hid] at this; cases this)
theorem SubStore.upd2 {σ σ' : Store} {id : Nat} {o : Ob} (h : SubStore σ σ') : SubStore (Vc.upd σ id o) (Vc.upd σ' id o) := fun i x hx => by
  simp only [Vc.upd] at hx ⊢
  split at hx
  · rename_i e; rw [if_pos e]; exact hx
  · rename_i e; rw [if_neg e]; exact h i x hx
end Go.Vc
namespace Go.Vc
variable {P : Program} {n : Nat} {st : St} {Q : St → Prop} {k : List It} {μ : Mu} {w : World}
theorem flat_drop {rows : List V} {sz : Nat} (h : ∀ r ∈ rows, r.cells.length = sz) (k : Nat) : flat (rows.drop k) = (flat rows).drop (k * sz) := by
  induction rows generalizing k with
  | nil => simp [flat]
  | cons r rs ih =>
    have e : ∀ l, flat (r :: l) = r.cells ++ flat l := fun l => by simp [flat]
    cases k with
    | zero => simp [flat]
    | succ k =>
      rw [List.drop_succ_cons, e, ih (fun x hx => h x (by simp [hx])), Nat.add_mul, Nat.one_mul, Nat.add_comm, ← h r (by simp), ← List.drop_drop, List.drop_left]
theorem RepAll.replicate {ow : Nat → Prop} {vs : List V} {l : List Value} (h : RepAll μ ow w vs l) : ∀ n, RepAll μ ow w (List.replicate n vs).flatten (List.replicate n l).flatten
  | 0 => by simp [RepAll]
  | n + 1 => by
    simp only [List.replicate_succ, List.flatten_cons]
    exact h.append (RepAll.replicate h n)
theorem clear_sound {F : Fr} {a : Act} (hs : SatM F μ st a w) {o : Oper} {x : Operand} {t e : TypeId} {args : Array Operand} {argTypes : Array TypeId} {i : TypeInfo} {z : Value}
    (hoo : o.op = .call { callee := .builtin .clear, args := args, argTypes := argTypes }) (harg : args = #[x]) (hty : argTypes[0]? = some t)
    (ht : P.underlying t = some (.slice e)) (hz : zeroOf P e = some (i, z)) {id off len : Nat} (h1 : (cx F.n x).ev st.s = .own id off len) {ob : Ob} (h2 : st.σ id = some ob)
    (h3 : ob.sz = i.size) (h4 : off + len ≤ ob.rows.length) :
    ∃ y w', (execOp a.eval o).run P w = .ok (.value y) w' ∧
      SatM F μ ⟨putO st.s (o.dst.filter (· < F.n)) (.tup []), upd st.σ id { ob with rows := ob.rows.take off ++ List.replicate len (ofValue z) ++ ob.rows.drop (off + len) }⟩ (a.put o.dst y) w' := by
  obtain ⟨hi, hz0, hk, hzs, hone, hsz⟩ := zeroOf_iff hz
  have R := rep_cx hs
  have hx := R x
  rw [h1] at hx
  simp only [Rep] at hx
  have hrun : ∀ w', (Builtin.clear_ argTypes o.type #[a.eval x]).run P w = .ok (.tuple #[]) w' → (execOp a.eval o).run P w = .ok (.value (.tuple #[])) w' := by
    intro w' hw'
    unfold execOp
    rw [hoo]
    simp [resolve, invoke, Go.builtin, harg, hw']
  have hrep : Rep μ (Owned μ st.σ) w (.tup []) (.tuple #[]) := by simp only [Rep]; exact ⟨[], rfl, by simp [RepAll]⟩
  have hzero : len = 0 → ∃ y w', (execOp a.eval o).run P w = .ok (.value y) w' ∧
      SatM F μ ⟨putO st.s (o.dst.filter (· < F.n)) (.tup []), upd st.σ id { ob with rows := ob.rows.take off ++ List.replicate len (ofValue z) ++ ob.rows.drop (off + len) }⟩ (a.put o.dst y) w' := by
    intro h0
    subst h0
    have hX : ∃ b c, a.eval x = .slice b 0 c := by
      split at hx
      · exact hx.elim
      · exact ⟨_, _, hx.1⟩
      · obtain ⟨o', c, h, _⟩ := hx; exact ⟨_, _, h⟩
    obtain ⟨b, c, hX⟩ := hX
    have hst : upd st.σ id { ob with rows := ob.rows.take off ++ List.replicate 0 (ofValue z) ++ ob.rows.drop (off + 0) } = st.σ := by
      funext j
      simp only [upd, List.replicate_zero, List.append_nil, Nat.add_zero, List.take_append_drop]
      split
      · rename_i e'; rw [e', h2]
      · rfl
    rw [hst]
    refine ⟨.tuple #[], w, hrun w ?_, hs.pure hrep⟩
    rw [hX]
    cases b <;> simp [Builtin.clear_, hty, run_underlying ht]
  split at hx
  · exact hx.elim
  · exact hzero hx.2.2
  · rename_i b szb cap hid
    obtain ⟨o', c, hX, c1, c2, c3, hz0⟩ := hx
    by_cases h0 : len = 0
    · exact hzero h0
    have hob := hs.sat.obj id ob h2
    rw [hid] at hob
    obtain ⟨cur, e1, e2, e3, e4, e5, e6, e7⟩ := hob.plain hz0
    obtain ⟨g1, xs, g2, g3, g4, g5⟩ := e7.cur e1
    have hoff : o' = off * szb := by
      rcases c3 with c3 | c3
      · exact c3
      · omega
    subst hoff
    have hs' : szb = i.size := by omega
    subst hs'
    have hzl : z.cells.size = i.size := hzs
    have hnews := zeroCells_list z.cells len
    have hnl : (Builtin.zeroCells z.cells len).toList.length = len * i.size := by rw [hnews]; simp [hzl]
    have hbound : off * i.size + len * i.size ≤ ob.rows.length * i.size := by rw [← Nat.add_mul]; exact Nat.mul_le_mul_right _ h4
    have hbound2 : ob.rows.length * i.size ≤ cap * i.size := Nat.mul_le_mul_right _ e5
    have hone' : ∀ u ∈ (Builtin.zeroCells z.cells len).toList, u.oneCell' = true := by
      rw [hnews]
      intro u hu
      simp only [List.mem_flatten, List.mem_replicate] at hu
      obtain ⟨l, ⟨_, rfl⟩, hu⟩ := hu
      exact hone u hu
    have hst := run_storeCells_at P b (off * i.size) ob.elem (Builtin.zeroCells z.cells len).toList 0 cur w e1 (by rw [hnl]; omega) hone'
    simp only [Nat.add_zero] at hst
    refine ⟨.tuple #[], w.setRow b (cur.toList.take (off * i.size) ++ (Builtin.zeroCells z.cells len).toList ++ cur.toList.drop (off * i.size + (Builtin.zeroCells z.cells len).toList.length)).toArray, hrun _ ?_, ?_⟩
    · rw [hX]
      obtain ⟨m, rfl⟩ : ∃ m, len = m + 1 := ⟨len - 1, by omega⟩
      simp only [Builtin.clear_, hty, Sem.run_bind, List.getElem?_toArray, Sem.run_pure, Result.andThen_ok, run_underlying ht, run_zeroValue hz]
      simp [hst, run_underlying ht, run_zeroValue hz]
    · have hgrow : w.grownBy (w.setRow b (cur.toList.take (off * i.size) ++ (Builtin.zeroCells z.cells len).toList ++ cur.toList.drop (off * i.size + (Builtin.zeroCells z.cells len).toList.length)).toArray) (some b) :=
        ⟨rfl, rfl, rfl, by simp, fun kk _ hkk => setRow_other w b kk _ (fun e => hkk (by rw [e]))⟩
      have hzc : (ofValue z).cells.length = i.size := by rw [ofValue_cells hone]; simp [hzl]
      have hrows' : ∀ q ∈ ob.rows.take off ++ List.replicate len (ofValue z) ++ ob.rows.drop (off + len), q.cells.length = i.size := by
        intro q hq
        simp only [List.mem_append] at hq
        rcases hq with (hq | hq) | hq
        · exact g1 q (List.mem_of_mem_take hq)
        · rw [(List.mem_replicate.1 hq).2]; exact hzc
        · exact g1 q (List.mem_of_mem_drop hq)
      have hflat : flat (ob.rows.take off ++ List.replicate len (ofValue z) ++ ob.rows.drop (off + len)) =
          (flat ob.rows).take (off * i.size) ++ (List.replicate len (ofValue z).cells).flatten ++ (flat ob.rows).drop (off * i.size + len * i.size) := by
        rw [flat_append, flat_append, flat_replicate, flat_take g1]
        congr 1
        rw [flat_drop g1, Nat.add_mul]
      have hzr : RepAll μ (Owned μ st.σ) w (ofValue z).cells z.cells.toList := by rw [ofValue_cells hone]; exact Rep_cellOfs _
      have hch := hs.sat.change h2 hid (by omega) hgrow _ (ob.rows.take off ++ List.replicate len (ofValue z) ++ ob.rows.drop (off + len)) (xs.take (off * i.size) ++ (Builtin.zeroCells z.cells len).toList ++ xs.drop (off * i.size + (Builtin.zeroCells z.cells len).toList.length))
        (setRow_heap w b cur _ ob.elem _ e1) (by simp only [List.size_toArray, List.length_append, List.length_take, List.length_drop, hnl]; rw [Array.length_toList]; omega) (by simp; omega) hrows'
        (by rw [hflat, hnl, hnews]; exact ((g2.take _).append (hzr.replicate len)).append (g2.drop _))
        (by intro u hu
            simp only [List.mem_append] at hu
            rcases hu with (hu | hu) | hu
            · exact g3 u (List.mem_of_mem_take hu)
            · exact hone' u hu
            · exact g3 u (List.mem_of_mem_drop hu))
        (by intro j u hu
            have := prefix_splice cur.toList xs _ g5 (off * i.size) (by rw [hnl, g4]; omega) j u hu
            simpa using this)
      exact hs.step hch.1 (MuLe.refl _) hch.2 (by simp) (by simp only [Rep]; exact ⟨[], rfl, by simp [RepAll]⟩)
theorem Runs.clear {i : VIns} {l : List VIns} {sz : Nat} {z : V} {xv : VX} (hw : wantV st.s i.g = some true) (ho : i.op = .clear sz z xv)
    {id off len : Nat} (h1 : xv.ev st.s = .own id off len) {ob : Ob} (h2 : st.σ id = some ob) (h3 : ob.sz = sz) (h4 : off + len ≤ ob.rows.length)
    (h : Runs P n (.ops l :: k) ⟨putO st.s i.dst (.tup []), upd st.σ id { ob with rows := ob.rows.take off ++ List.replicate len z ++ ob.rows.drop (off + len) }⟩ Q) : Runs P n (.ops (i :: l) :: k) st Q := by
  refine Runs.ins (by rw [ho]; simp) hw fun F hn μ a w o all hi hs next Q' hnext => ?_
  subst hn
  obtain ⟨hop, hd⟩ := cins_op hi
  rw [ho] at hop
  obtain ⟨x, t, e, args, argTypes, ti, zv, g1, g2, g3, g4, g5, rfl, rfl, rfl⟩ := cop_clear hop
  obtain ⟨y, w', hx, hs'⟩ := clear_sound hs g1 g2 g3 g4 g5 h1 h2 h3 h4
  unfold Oper.wp
  rw [hx]
  refine hnext _ _ _ ⟨μ, ?_⟩ h
  rw [← hd]
  exact hs'
theorem cx_iface {y : Operand} {t : TypeId} {v : V} : cx n y ≠ .c (.iface t v) := by
  cases y
  case tmp m => simp only [cx]; split <;> simp
  case const u =>
    simp only [cx, ne_eq, VX.c.injEq]
    unfold ofValue
    split
    · split <;> simp
    · unfold cellOf
      repeat' split
      all_goals simp
  all_goals simp [cx]
theorem cop_nilS {o : Op} {xa : VX} (h : cop P n o = .binB false xa (.c (.iface 0 .undef))) : ∃ t x y m c yt e, o = .binOp .eql t x y yt ∧ y = .const (.slice none m c) ∧ P.underlying t = some (.slice e) ∧ cx n x = xa := by
  cases o
  case binOp op t x y yt =>
    simp only [cop] at h
    split at h
    · cases op <;> simp only [reduceCtorEq, VOp.binB.injEq, Bool.true_eq_false, false_and] at h
      exact absurd h.2.2 cx_iface
    · split at h
      · cases op <;> simp only [reduceCtorEq] at h
      · cases h
    · split at h
      · rename_i hs
        unfold nilB at h
        split at h
        · rename_i hy
          obtain ⟨rfl, hy⟩ := hy
          simp only [VOp.binB.injEq, and_true, true_and] at h
          unfold sliceT at hs
          split at hs
          · rename_i e ht
            unfold nilS nilV at hy
            split at hy
            · split at hy
              · exact ⟨t, x, _, _, _, yt, e, rfl, rfl, ht, h⟩
              · cases hy
            · cases hy
          · cases hs
        · cases h
      · split at h
        · split at h
          · simp only [VOp.binB.injEq, VX.c.injEq, V.iface.injEq] at h
            exact absurd h.2.2.1 (by decide)
          · cases h
        · split at h
          · split at h
            · simp only [VOp.binB.injEq, VX.c.injEq, V.iface.injEq] at h
              exact absurd h.2.2.1 (by decide)
            · cases h
          · (repeat' split at h) <;> cases h
  case call c =>
    obtain ⟨callee, args, argTypes⟩ := c
    cases callee
    case builtin b => cases b <;> simp only [cop] at h <;> (repeat' split at h) <;> cases h
    all_goals (simp only [cop] at h; cases h)
  case unOp op t x => cases op <;> simp only [cop] at h <;> cases h
  case makeFunc f a b => cases f <;> simp only [cop] at h <;> (repeat' split at h) <;> cases h
  all_goals (simp only [cop] at h; (repeat' split at h) <;> cases h)
theorem Runs.nilS {i : VIns} {l : List VIns} {xa : VX} (hw : wantV st.s i.g = some true) (ho : i.op = .binB false xa (.c (.iface 0 .undef))) {sz : Nat} {rows : List V}
    (hx : xa.ev st.s = .sl sz rows) (h : ∀ b, (b = true → rows = []) → Runs P n (.ops l :: k) ⟨putO st.s i.dst (.bool b), st.σ⟩ Q) : Runs P n (.ops (i :: l) :: k) st Q := by
  refine Runs.ins (by rw [ho]; simp) hw fun F hn μ a w o all hi hs next Q' hnext => ?_
  subst hn
  obtain ⟨hop, hd⟩ := cins_op hi
  rw [ho] at hop
  obtain ⟨t, x, y, m, c, yt, e, g1, rfl, g2, rfl⟩ := cop_nilS hop
  have R := rep_cx hs x
  rw [hx] at R
  simp only [Rep] at R
  obtain ⟨ba, cap, hX, _, hr⟩ := R
  have hrun : (execOp a.eval o).run P w = .ok (.value (.bool ba.isNone)) w := by
    unfold execOp
    rw [g1]
    have hY : a.eval (.const (.slice none m c)) = .slice none m c := rfl
    simp [hX, hY, eqGuard, Lib.run_eql_slice_nil w t e ba rows.length cap m c g2]
  unfold Oper.wp
  rw [hrun]
  refine hnext _ _ _ ⟨μ, ?_⟩ (h ba.isNone ?_)
  · rw [← hd]
    exact hs.pure (by simp [Rep])
  · intro hb
    rcases hr with hr | ⟨b, off, rfl, _⟩
    · exact hr
    · cases hb
theorem cop_nilI {o : Op} {xa : VX} {neg : Bool} (h : cop P n o = .binB neg xa (.c (.iface 1 .undef))) : ∃ op t x yt ms, o = .binOp op t x (.const .nilIface) yt ∧ ((op = .eql ∧ neg = false) ∨ (op = .neq ∧ neg = true)) ∧ P.underlying t = some (.interface ms) ∧ cx n x = xa := by
  cases o
  case binOp op t x y yt =>
    simp only [cop] at h
    split at h
    · cases op <;> simp only [reduceCtorEq, VOp.binB.injEq] at h
      · exact absurd h.2.2 cx_iface
      · exact absurd h.2.2 cx_iface
    · split at h
      · cases op <;> simp only [reduceCtorEq] at h
      · cases h
    · split at h
      · unfold nilB at h
        split at h
        · simp only [VOp.binB.injEq, VX.c.injEq, V.iface.injEq] at h
          exact absurd h.2.2.1 (by decide)
        · cases h
      · split at h
        · rename_i hs
          split at h
          · rename_i hy
            obtain ⟨ho, hy⟩ := hy
            simp only [VOp.binB.injEq, and_true] at h
            unfold ifaceT at hs
            split at hs
            · rename_i ms ht
              unfold nilIC at hy
              split at hy
              · rcases ho with rfl | rfl
                · exact ⟨.eql, t, x, yt, ms, rfl, .inl ⟨rfl, h.1.symm⟩, ht, h.2⟩
                · exact ⟨.neq, t, x, yt, ms, rfl, .inr ⟨rfl, h.1.symm⟩, ht, h.2⟩
              · cases hy
            · cases hs
          · cases h
        · split at h
          · split at h
            · simp only [VOp.binB.injEq, VX.c.injEq, V.iface.injEq] at h
              exact absurd h.2.2.1 (by decide)
            · cases h
          · (repeat' split at h) <;> cases h
  case call c =>
    obtain ⟨callee, args, argTypes⟩ := c
    cases callee
    case builtin b => cases b <;> simp only [cop] at h <;> (repeat' split at h) <;> cases h
    all_goals (simp only [cop] at h; cases h)
  case unOp op t x => cases op <;> simp only [cop] at h <;> cases h
  case makeFunc f a b => cases f <;> simp only [cop] at h <;> (repeat' split at h) <;> cases h
  all_goals (simp only [cop] at h; (repeat' split at h) <;> cases h)
theorem Runs.nilI {i : VIns} {l : List VIns} {xa : VX} {neg : Bool} (hw : wantV st.s i.g = some true) (ho : i.op = .binB neg xa (.c (.iface 1 .undef))) {b : Bool}
    (hx : (xa.ev st.s = .niliface ∧ b = true) ∨ ∃ t v, xa.ev st.s = .iface t v ∧ b = false) (h : Runs P n (.ops l :: k) ⟨putO st.s i.dst (.bool (b != neg)), st.σ⟩ Q) : Runs P n (.ops (i :: l) :: k) st Q := by
  refine Runs.ins (by rw [ho]; simp) hw fun F hn μ a w o all hi hs next Q' hnext => ?_
  subst hn
  obtain ⟨hop, hd⟩ := cins_op hi
  rw [ho] at hop
  obtain ⟨op, t, x, yt, ms, g1, g2, g3, rfl⟩ := cop_nilI hop
  have R := rep_cx hs x
  have hY : a.eval (.const .nilIface) = .nilIface := rfl
  have hm : P.underlying t = some (.interface (P.methodsAt t)) := by simp [Program.methodsAt, g3]
  have hrun : (execOp a.eval o).run P w = .ok (.value (.bool (b != neg))) w := by
    unfold execOp
    rw [g1]
    rcases hx with ⟨hx, rfl⟩ | ⟨t', v, hx, rfl⟩
    · rw [hx] at R
      simp only [Rep] at R
      rcases g2 with ⟨rfl, rfl⟩ | ⟨rfl, rfl⟩
      · simp [R, hY, eqGuard, run_eql_nil_nil w t hm]
      · simp [R, hY, eqGuard, run_neq_nil_nil w t hm]
    · rw [hx] at R
      simp only [Rep] at R
      obtain ⟨y, hy, _⟩ := R
      rcases g2 with ⟨rfl, rfl⟩ | ⟨rfl, rfl⟩
      · simp [hy, hY, eqGuard, run_eql_held_nil w t t' y hm]
      · simp [hy, hY, eqGuard, run_neq_held_nil w t t' y hm]
  unfold Oper.wp
  rw [hrun]
  refine hnext _ _ _ ⟨μ, ?_⟩ h
  rw [← hd]
  exact hs.pure (by simp [Rep])
theorem cop_nilF {o : Op} {xa : VX} {neg : Bool} (h : cop P n o = .binB neg xa (.c (.iface 2 .undef))) : ∃ op t x yt p r vr, o = .binOp op t x (.const .nilFunc) yt ∧ ((op = .eql ∧ neg = false) ∨ (op = .neq ∧ neg = true)) ∧ P.underlying t = some (.func p r vr) ∧ cx n x = xa := by
  cases o
  case binOp op t x y yt =>
    simp only [cop] at h
    split at h
    · cases op <;> simp only [reduceCtorEq, VOp.binB.injEq] at h
      · exact absurd h.2.2 cx_iface
      · exact absurd h.2.2 cx_iface
    · split at h
      · cases op <;> simp only [reduceCtorEq] at h
      · cases h
    · split at h
      · unfold nilB at h
        split at h
        · simp only [VOp.binB.injEq, VX.c.injEq, V.iface.injEq] at h
          exact absurd h.2.2.1 (by decide)
        · cases h
      · split at h
        · split at h
          · simp only [VOp.binB.injEq, VX.c.injEq, V.iface.injEq] at h
            exact absurd h.2.2.1 (by decide)
          · cases h
        · split at h
          · rename_i hs
            split at h
            · rename_i hy
              obtain ⟨ho, hy⟩ := hy
              simp only [VOp.binB.injEq, and_true] at h
              unfold funcT at hs
              split at hs
              · rename_i p r vr ht
                unfold nilFC at hy
                split at hy
                · rcases ho with rfl | rfl
                  · exact ⟨.eql, t, x, yt, p, r, vr, rfl, .inl ⟨rfl, h.1.symm⟩, ht, h.2⟩
                  · exact ⟨.neq, t, x, yt, p, r, vr, rfl, .inr ⟨rfl, h.1.symm⟩, ht, h.2⟩
                · cases hy
              · cases hs
            · cases h
          · (repeat' split at h) <;> cases h
  case call c =>
    obtain ⟨callee, args, argTypes⟩ := c
    cases callee
    case builtin b => cases b <;> simp only [cop] at h <;> (repeat' split at h) <;> cases h
    all_goals (simp only [cop] at h; cases h)
  case unOp op t x => cases op <;> simp only [cop] at h <;> cases h
  case makeFunc f a b => cases f <;> simp only [cop] at h <;> (repeat' split at h) <;> cases h
  all_goals (simp only [cop] at h; (repeat' split at h) <;> cases h)
theorem run_eql_fn {t : TypeId} {p r : Array TypeId} {vr : Bool} (w : World) (ht : P.underlying t = some (.func p r vr)) (x : Value) (b : Bool) (hx : (x = .nilFunc ∧ b = true) ∨ (∃ f q c, x = .func f q c) ∧ b = false) :
    (binOp .eql t x .nilFunc).run P w = .ok (.bool b) w ∧ (binOp .neq t x .nilFunc).run P w = .ok (.bool (!b)) w := by
  have he : (Op.equal t x .nilFunc).run P w = .ok b w := by
    unfold Op.equal
    rw [show Op.maxDepth = 9999 + 1 from rfl]
    generalize 9999 = d
    rcases hx with ⟨rfl, rfl⟩ | ⟨⟨f, q, c, rfl⟩, rfl⟩
    · simp [Op.equalIn, run_underlying ht]
    · simp [Op.equalIn, run_underlying ht]
  rcases hx with ⟨rfl, rfl⟩ | ⟨⟨f, q, c, rfl⟩, rfl⟩
  · exact ⟨by simp [binOp, he], by simp [binOp, he]⟩
  · exact ⟨by simp [binOp, he], by simp [binOp, he]⟩
theorem Runs.nilF {i : VIns} {l : List VIns} {xa : VX} {neg : Bool} (hw : wantV st.s i.g = some true) (ho : i.op = .binB neg xa (.c (.iface 2 .undef))) {b : Bool}
    (hx : (xa.ev st.s = .nilfn ∧ b = true) ∨ ∃ f caps, xa.ev st.s = .fn f caps ∧ b = false) (h : Runs P n (.ops l :: k) ⟨putO st.s i.dst (.bool (b != neg)), st.σ⟩ Q) : Runs P n (.ops (i :: l) :: k) st Q := by
  refine Runs.ins (by rw [ho]; simp) hw fun F hn μ a w o all hi hs next Q' hnext => ?_
  subst hn
  obtain ⟨hop, hd⟩ := cins_op hi
  rw [ho] at hop
  obtain ⟨op, t, x, yt, p, r, vr, g1, g2, g3, rfl⟩ := cop_nilF hop
  have R := rep_cx hs x
  have hY : a.eval (.const .nilFunc) = .nilFunc := rfl
  have hrun : (execOp a.eval o).run P w = .ok (.value (.bool (b != neg))) w := by
    unfold execOp
    rw [g1]
    have hX : (a.eval x = .nilFunc ∧ b = true) ∨ (∃ f q c, a.eval x = .func f q c) ∧ b = false := by
      rcases hx with ⟨hx, rfl⟩ | ⟨f, caps, hx, rfl⟩
      · rw [hx] at R
        simp only [Rep] at R
        exact .inl ⟨R, rfl⟩
      · rw [hx] at R
        simp only [Rep] at R
        obtain ⟨y, hy, _⟩ := R
        exact .inr ⟨⟨_, _, _, hy⟩, rfl⟩
    obtain ⟨q1, q2⟩ := run_eql_fn w g3 (a.eval x) b hX
    have hg : ∀ op, (eqGuard op t x (.const .nilFunc) (a.eval x) .nilFunc).run P w = .ok () w := by
      intro op
      rcases hX with ⟨h1, _⟩ | ⟨⟨f, q, c, h1⟩, _⟩ <;> rw [h1] <;> simp [eqGuard]
    rcases g2 with ⟨rfl, rfl⟩ | ⟨rfl, rfl⟩
    · simp [hY, hg, q1]
    · simp [hY, hg, q2]
  unfold Oper.wp
  rw [hrun]
  refine hnext _ _ _ ⟨μ, ?_⟩ h
  rw [← hd]
  exact hs.pure (by simp [Rep])
end Go.Vc
namespace Go.Vc
variable {P : Program} {n : Nat} {st : St} {Q : St → Prop} {k : List It}
def keepS (l : List Nat) (s : Nat → V) : Nat → V := fun i => if l.contains i then s i else .undef
theorem Weak.keep {s : Nat → V} {σ σ' : Store} (l : List Nat) (h : SubStore σ' σ) : Weak ⟨s, σ⟩ ⟨keepS l s, σ'⟩ :=
  ⟨h, fun i => by
    show Wk σ σ' (s i) (keepS l s i)
    unfold keepS
    split
    · exact Wk.refl h _
    · exact Wk.undef _⟩
theorem Runs.keep {s : Nat → V} {σ : Store} {todo : List It} (l : List Nat) {σ' : Store} (h : SubStore σ' σ) (hr : Runs P n todo ⟨keepS l s, σ'⟩ Q) : Runs P n todo ⟨s, σ⟩ Q :=
  Runs.weaken (Weak.keep l h) hr
theorem Runs.freeze {s : Nat → V} {σ : Store} {todo : List It} (l : List Nat) (d id off len : Nat) {ob : Ob} {σ' : Store} (h : SubStore σ' σ) (ho : σ id = some ob) (hid : σ' id = none)
    (hs : s d = .own id off len) (hl : off + len ≤ ob.rows.length)
    (hr : Runs P n todo ⟨fun i => if i = d then .sl ob.sz ((ob.rows.drop off).take len) else keepS l s i, σ'⟩ Q) : Runs P n todo ⟨s, σ⟩ Q := by
  refine Runs.weaken ⟨h, fun i => ?_⟩ hr
  show Wk σ σ' (s i) _
  by_cases hi : i = d
  · simp only [hi, if_true]
    rw [hs]
    exact Wk.own h ho hid hl
  · simp only [hi, if_false]
    unfold keepS
    split
    · exact Wk.refl h _
    · exact Wk.undef _
theorem keepS_eq (l : List Nat) (s : Nat → V) (i : Nat) : keepS l s i = if l.contains i then s i else .undef := rfl
def mix (m : Nat) (a b : Nat → V) : Nat → V := fun i => if i < m then a i else b i
theorem mix_get (m : Nat) (a b : Nat → V) (i : Nat) : mix m a b i = if i < m then a i else b i := rfl
theorem mix_self (m : Nat) (s : Nat → V) : mix m s s = s := by funext i; simp [mix]
theorem putO_nothing (s : Nat → V) (v : V) : putO s none v = s := rfl
theorem putO_lo {m d : Nat} (h : d < m) (a b : Nat → V) (v : V) : putO (mix m a b) (some d) v = mix m (putO a (some d) v) b := by
  funext i
  simp only [putO, mix]
  split
  · rename_i e; subst e; simp [h]
  · split <;> rfl
theorem putO_hi {m d : Nat} (h : m ≤ d) (a b : Nat → V) (v : V) : putO (mix m a b) (some d) v = mix m a (putO b (some d) v) := by
  funext i
  simp only [putO, mix]
  split
  · rename_i e; subst e; simp [Nat.not_lt.2 h]
  · split <;> rfl
theorem Runs.mix (m : Nat) {todo : List It} {s : Nat → V} {σ : Store} (h : Runs P n todo ⟨Vc.mix m s s, σ⟩ Q) : Runs P n todo ⟨s, σ⟩ Q := by
  rw [mix_self] at h; exact h
theorem Ret_cell_one {s : Nat → V} {σ : Store} {agg : Bool} {sz d : Nat} {Post : V → Store → Prop} :
    Ret [.cell agg sz (.t d)] ⟨s, σ⟩ Post = onSome (loadV σ agg sz (s d)) fun v => RetV v σ Post := by
  unfold Ret RetV resV
  simp only [resAll, resOne, VX.ev]
  cases loadV σ agg sz (s d) <;> simp [onSome]
theorem Ret_cell_two {s : Nat → V} {σ : Store} {agg : Bool} {sz d e : Nat} {Post : V → Store → Prop} :
    Ret [.cell agg sz (.t d), .tmp (.t e)] ⟨s, σ⟩ Post = onSome (loadV σ agg sz (s d)) fun v => RetV (.tup [v, s e]) σ Post := by
  unfold Ret RetV resV
  simp only [resAll, resOne, VX.ev]
  cases loadV σ agg sz (s d) <;> simp [onSome]
theorem SubStore.updK {σ0 σ : Store} {id : Nat} {o : Ob} (h : SubStore σ0 σ) (hid : σ0 id = none) : SubStore σ0 (Vc.upd σ id o) := fun i x hx => by
  have hne : i ≠ id := fun e => by rw [e, hid] at hx; cases hx
  rw [upd_ne hne]
  exact h i x hx
theorem SubStore.none {a b : Store} (h : SubStore a b) {i : Nat} (hi : b i = none) : a i = none := by
  cases ha : a i with
  | none => rfl
  | some o => rw [h i o ha] at hi; cases hi
theorem ne_new {σ : Store} {i j : Nat} {o : Ob} (h : σ i = some o) (hj : σ j = none) : i ≠ j := by rintro rfl; rw [h] at hj; cases hj
theorem effR_new {O : Orc P} {f : Nat} {d : Option Nat} {l : List VIns} {v : Nat → V} {ob : Ob} {s : Nat → V} {σ : Store}
    (h : ∀ id σ', SubStore σ σ' → σ' id = some ob → σ id = none → step P O n f (.r (.ops l :: k)) ⟨putO s d (v id), σ'⟩ Q) :
    effR P O n f l k d ⟨s, σ⟩ Q (some fun id => (v id, Vc.upd σ id ob)) := by
  rw [effR_some]
  exact fun id hid => h id _ ((SubStore.refl σ).upd hid) upd_same hid
theorem Runs.pcall {i : VIns} {l : List VIns} {fx : VX} {xs : List VX} {s : Nat → V} {σ : Store} {f : FuncId} {caps : List V} {v : V} (hw : wantV s i.g = some true) (ho : i.op = .call fx xs)
    (hf : fx.ev s = .fn f caps) (hc : Contract P f (xs.map (·.ev s) ++ caps) σ fun r σ' => r = v ∧ σ' = σ) (h : Runs P n (.ops l :: k) ⟨putO s i.dst v, σ⟩ Q) :
    Runs P n (.ops (i :: l) :: k) ⟨s, σ⟩ Q := by
  refine Runs.call hw ho hf hc ?_
  rintro r σ' ⟨rfl, rfl⟩
  exact h
theorem binV_int (op : BinOp) (k : IntKind) (a b : Int) : binV op (.int k a) (.int k b) = intBin op k a b := by simp [binV]
theorem binV_str (op : BinOp) (a b : List UInt8) : binV op (.str a) (.str b) = strBin op a b := rfl
theorem binPre_int (op : BinOp) (k k' : IntKind) (a b : Int) : binPre op (.int k a) (.int k' b) = intPre op k a b := rfl
theorem binPre_str (op : BinOp) (a b : List UInt8) : binPre op (.str a) (.str b) = strPre op a b := rfl
theorem lenV_own (id off n : Nat) : lenV false (.own id off n) = some (.int .i64 n) := rfl
theorem lenV_sl (sz : Nat) (rows : List V) : lenV false (.sl sz rows) = some (.int .i64 rows.length) := rfl
theorem lenV_nils : lenV false .nils = some (.int .i64 0) := rfl
theorem lenV_str (s : List UInt8) : lenV true (.str s) = some (.int .i64 s.length) := rfl
theorem idxAV_own (σ : Store) (esz id off len : Nat) (k : IntKind) (j : Int) : idxAV σ esz (.own id off len) (.int k j) = match σ id with
      | some ob => if ob.sz = esz ∧ 0 ≤ j ∧ j < len then some (.ptr id (off + j.toNat) 0) else none
      | none => none := rfl
theorem loadV_ptr (σ : Store) (agg : Bool) (sz id i k : Nat) : loadV σ agg sz (.ptr id i k) = match σ id with
      | some ob => match ob.rows[i]? with
        | some r => if agg then (if k = 0 ∧ r.cells.length = sz then some (.agg r.cells) else if k + sz ≤ r.cells.length then some (.agg ((r.cells.drop k).take sz)) else none)
            else r.cells[k]?
        | none => none
      | none => none := rfl
theorem loadV_rp_agg (σ : Store) (sz : Nat) (vs : List V) : loadV σ true sz (.rp (.agg vs)) = if vs.length = sz then some (.agg vs) else none := rfl
theorem loadV_rp_int (σ : Store) (sz : Nat) (k : IntKind) (j : Int) : loadV σ false sz (.rp (.int k j)) = some (.int k j) := rfl
def Reads (σ : Store) (sz : Nat) (agg : Bool) (sv : V) (rows : List V) : Prop :=
  lenV false sv = some (.int .i64 rows.length) ∧ ∀ (i : Nat) v, rows[i]? = some v → ∃ p, idxAV σ sz sv (.int .i64 i) = some p ∧ loadV σ agg sz p = some v
theorem Reads.own {σ : Store} {sz id off len : Nat} {ob : Ob} (ho : σ id = some ob) (hs : ob.sz = sz) (hl : off + len ≤ ob.rows.length) (h1 : ∀ r ∈ ob.rows, r.cells = [r]) :
    Reads σ sz false (.own id off len) ((ob.rows.drop off).take len) := by
  refine ⟨by simp [lenV]; omega, fun i v hv => ?_⟩
  have hi : i < len := by
    have := (List.getElem?_eq_some_iff.1 hv).1
    simp at this
    omega
  have hv' : ob.rows[off + i]? = some v := by
    rw [List.getElem?_take, if_pos hi, List.getElem?_drop] at hv
    exact hv
  refine ⟨.ptr id (off + i) 0, ?_, ?_⟩
  · simp [idxAV, ho, hs, hi]
  · simp [loadV, ho, hv', h1 v (List.mem_of_getElem? hv')]
theorem inR_i64 {m : Int} (h1 : -9223372036854775808 ≤ m) (h2 : m ≤ 9223372036854775807) : inR .i64 m := by
  unfold inR
  rw [IntKind.wrap_i64]
  omega
end Go.Vc
namespace Go.Vc
mutual
/-- no row's number in it -/
def V.noid : V → Bool
  | .own .. | .ptr .. | .yl _ => false
  | .sl _ rows => noidL rows
  | .rp v => v.noid
  | .fn _ caps => noidL caps
  | .bm _ caps => noidL caps
  | .iface _ v => v.noid
  | .agg c | .tup c => noidL c
  | _ => true
def noidL : List V → Bool
  | [] => true
  | v :: vs => v.noid && noidL vs
end
theorem Contract.weak {P : Program} {f : FuncId} {args : List V} {σ : Store} {Post Post' : V → Store → Prop} (h : Contract P f args σ Post)
    (hp : ∀ r σ', Post r σ' → RetV r σ' Post') : Contract P f args σ Post' := ⟨h.1, fun μ w vals hs hr => (h.2 μ w vals hs hr).mono fun e w' ⟨r, σ', μ', val, h1, h2, h3, h4, h5⟩ => by
    obtain ⟨v', σ'', g1, g2, g3⟩ := hp r σ' h2
    exact ⟨v', σ'', μ', val, h1, g3, h3, h4.drop g1, g2 μ' _ _ _ _ h4 h5⟩⟩
mutual
/-- the same, with each row of its own as one that is only read -/
inductive Fz (σ : Store) (N : Nat → Prop) : V → V → Prop
  | same (v : V) (h : v.noid = true) : Fz σ N v v
  | own (id off len : Nat) (ob : Ob) (rows : List V) (h1 : σ id = some ob) (h2 : N id) (h3 : off + len ≤ ob.rows.length) (h4 : FzL σ N ((ob.rows.drop off).take len) rows) :
      Fz σ N (.own id off len) (.sl ob.sz rows)
  | nil (sz : Nat) : Fz σ N .nils (.sl sz [])
  | sl (sz : Nat) (rows rows' : List V) (h : FzL σ N rows rows') : Fz σ N (.sl sz rows) (.sl sz rows')
  | agg (cs ds : List V) (h : FzL σ N cs ds) : Fz σ N (.agg cs) (.agg ds)
  | tup (cs ds : List V) (h : FzL σ N cs ds) : Fz σ N (.tup cs) (.tup ds)
  | ptr (id i : Nat) (ob : Ob) (r u : V) (h1 : σ id = some ob) (h2 : N id) (h3 : ob.rows[i]? = some r) (h4 : Fz σ N r u) : Fz σ N (.ptr id i 0) (.rp u)
  | fn (f : FuncId) (cs ds : List V) (h : FzL σ N cs ds) : Fz σ N (.fn f cs) (.fn f ds)
  | bm (f : FuncId) (cs ds : List V) (h : FzL σ N cs ds) : Fz σ N (.bm f cs) (.bm f ds)
  | iface (t : TypeId) (v u : V) (h : Fz σ N v u) : Fz σ N (.iface t v) (.iface t u)
inductive FzL (σ : Store) (N : Nat → Prop) : List V → List V → Prop
  | nil : FzL σ N [] []
  | cons (v u : V) (vs us : List V) (h : Fz σ N v u) (h' : FzL σ N vs us) : FzL σ N (v :: vs) (u :: us)
end
section
variable {σ K : Store} {N : Nat → Prop} {μ : Mu} {w0 w : World} {ow0 : Nat → Prop}
theorem RepRow.lift {ow ow' : Nat → Prop} {v u : V} {b off : Nat} (hv : ∀ cs, v ≠ .agg cs) (hu : ∀ cs, u ≠ .agg cs) (h : ∀ x, Rep μ ow w v x → Rep μ ow' w u x)
    (hr : RepRow μ ow w v b off) : RepRow μ ow' w u b off := by
  have e1 : ∃ x, w.cell? ⟨b, off, none⟩ = some x ∧ Rep μ ow w v x ∧ x.oneCell' = true := by
    cases v <;> first | exact absurd rfl (hv _) | simpa only [RepRow] using hr
  obtain ⟨x, h1, h2, h3⟩ := e1
  have e2 : ∃ x, w.cell? ⟨b, off, none⟩ = some x ∧ Rep μ ow' w u x ∧ x.oneCell' = true := ⟨x, h1, h x h2, h3⟩
  cases u <;> first | exact absurd rfl (hu _) | simpa only [RepRow] using e2
mutual
theorem Fz.down (hs : Sat w0 ow0 μ σ w) (hK : SubStore K σ) (hN : ∀ id, N id → K id = none) : ∀ {v u : V}, Fz σ N v u → (∀ x, Rep μ (Owned μ σ) w v x → Rep μ (Owned μ K) w u x) ∧
    (∀ b off, RepRow μ (Owned μ σ) w v b off → RepRow μ (Owned μ K) w u b off) ∧ u.cells.length = v.cells.length
  | _, _, .same v h => ⟨fun x hr => Rep.mono (MuLe.refl μ) (Keeps.sub w hK) (Nat.le_refl _) v x hr, fun b off hr => RepRow.mono (MuLe.refl μ) (Keeps.sub w hK) (Nat.le_refl _) v b off rfl hr, rfl⟩
  | _, _, .own id off len ob rows ho h2 hl h4 => by
    have hd := FzL.down hs hK hN h4
    have key : ∀ x, Rep μ (Owned μ σ) w (.own id off len) x → Rep μ (Owned μ K) w (.sl ob.sz rows) x := by
      intro x hr
      simp only [Rep] at hr ⊢
      have hlen : rows.length = len := by rw [hd.2.2.2]; simp; omega
      have hob := hs.obj id ob ho
      split at hr
      · exact hr.elim
      · obtain ⟨rfl, rfl, rfl⟩ := hr
        have : rows = [] := List.eq_nil_of_length_eq_zero hlen
        subst this
        exact ⟨none, 0, by simp, by simp, .inl rfl⟩
      · rename_i b sz cap hb
        obtain ⟨o, c, rfl, h1, h2', h3, hz⟩ := hr
        refine ⟨_, c, by rw [hlen], by omega, ?_⟩
        by_cases h0 : len = 0
        · left; exact List.eq_nil_of_length_eq_zero (by omega)
        · right
          rw [hb] at hob
          obtain ⟨g1, g2, g3, g4, g5⟩ := hob.rows hz
          have ho' : o = off * sz := by
            rcases h3 with h3 | h3
            · exact h3
            · omega
          subst ho' g1
          refine ⟨b, _, rfl, ?_, g2, ?_⟩
          · rintro ⟨id', ob', sz', cap', e1, e2⟩
            have := hs.inj id' id ob' ob _ _ _ _ _ (hK _ _ e1) ho e2 hb
            rw [this, hN id h2] at e1
            cases e1
          · have := (g5.drop off).take len
            rw [Nat.zero_add] at this
            exact hd.2.2.1 _ _ _ this
    exact ⟨key, fun b off' hr => RepRow.lift (fun _ => by simp) (fun _ => by simp) key hr, rfl⟩
  | _, _, .nil sz => by
    have key : ∀ x, Rep μ (Owned μ σ) w .nils x → Rep μ (Owned μ K) w (.sl sz []) x := fun x hr => by
      simp only [Rep] at hr ⊢
      exact ⟨none, 0, by simpa using hr, by simp, .inl trivial⟩
    exact ⟨key, fun b off' hr => RepRow.lift (fun _ => by simp) (fun _ => by simp) key hr, rfl⟩
  | _, _, .sl sz rows rows' h => by
    have hd := FzL.down hs hK hN h
    have key : ∀ x, Rep μ (Owned μ σ) w (.sl sz rows) x → Rep μ (Owned μ K) w (.sl sz rows') x := fun x hr => by
      simp only [Rep] at hr ⊢
      obtain ⟨a, cap, rfl, h1, h2⟩ := hr
      refine ⟨a, cap, by rw [hd.2.2.2], by rw [hd.2.2.2]; exact h1, ?_⟩
      rcases h2 with h2 | ⟨b, off, h3, h4, h5, h6⟩
      · left
        have := hd.2.2.2
        rw [h2] at this
        exact List.eq_nil_of_length_eq_zero this
      · exact .inr ⟨b, off, h3, fun ho => h4 (ho.sub hK), h5, hd.2.2.1 _ _ _ h6⟩
    exact ⟨key, fun b off' hr => RepRow.lift (fun _ => by simp) (fun _ => by simp) key hr, rfl⟩
  | _, _, .agg cs ds h => by
    have hd := FzL.down hs hK hN h
    refine ⟨fun x hr => ?_, fun b off hr => ?_, by simp only [V.cells]; exact hd.2.2.2⟩
    · simp only [Rep] at hr ⊢
      obtain ⟨vals, rfl, h1, h2⟩ := hr
      exact ⟨vals, rfl, hd.1 _ h1, h2⟩
    · simp only [RepRow] at hr ⊢
      exact hd.2.1 _ _ hr
  | _, _, .tup cs ds h => by
    have hd := FzL.down hs hK hN h
    have key : ∀ x, Rep μ (Owned μ σ) w (.tup cs) x → Rep μ (Owned μ K) w (.tup ds) x := fun x hr => by
      simp only [Rep] at hr ⊢
      obtain ⟨vals, rfl, h1⟩ := hr
      exact ⟨vals, rfl, hd.1 _ h1⟩
    exact ⟨key, fun b off' hr => RepRow.lift (fun _ => by simp) (fun _ => by simp) key hr, rfl⟩
  | _, _, .ptr id i ob r u ho h2 hi h4 => by
    have hd := Fz.down hs hK hN h4
    have key : ∀ x, Rep μ (Owned μ σ) w (.ptr id i 0) x → Rep μ (Owned μ K) w (.rp u) x := by
      intro x hr
      simp only [Rep] at hr ⊢
      have hob := hs.obj id ob ho
      split at hr
      · rename_i b sz cap hb
        obtain ⟨rfl, hz⟩ := hr
        rw [hb] at hob
        obtain ⟨g1, g2, g3, g4, g5⟩ := hob.rows hz
        obtain ⟨e1, e2⟩ := g5.get hi
        rw [Nat.zero_add] at e2
        have hno : ¬ Owned μ K b := by
          rintro ⟨id', ob', sz', cap', e1, e2⟩
          have := hs.inj id' id ob' ob _ _ _ _ _ (hK _ _ e1) ho e2 hb
          rw [this, hN id h2] at e1
          cases e1
        refine ⟨b, i * sz, by simp, ?_, .inr hno, hd.2.1 _ _ ((RepRow_eq _ _ _ _ _ _).2 e2)⟩
        cases hc : r.cells with
        | nil => rw [hc] at e1; simp at e1; omega
        | cons c cs =>
          rw [hc] at e2
          simp only [RepCells] at e2
          obtain ⟨⟨y, hy, _⟩, _⟩ := e2
          exact World.block_lt_of_cell? w _ hy
      · exact hr.elim
    exact ⟨key, fun b off' hr => RepRow.lift (fun _ => by simp) (fun _ => by simp) key hr, rfl⟩
  | _, _, .fn f cs ds h => by
    have hd := FzL.down hs hK hN h
    have key : ∀ x, Rep μ (Owned μ σ) w (.fn f cs) x → Rep μ (Owned μ K) w (.fn f ds) x := fun x hr => by
      simp only [Rep] at hr ⊢
      obtain ⟨vals, rfl, h1⟩ := hr
      exact ⟨vals, rfl, hd.1 _ h1⟩
    exact ⟨key, fun b off' hr => RepRow.lift (fun _ => by simp) (fun _ => by simp) key hr, rfl⟩
  | _, _, .bm f cs ds h => by
    have hd := FzL.down hs hK hN h
    have key : ∀ x, Rep μ (Owned μ σ) w (.bm f cs) x → Rep μ (Owned μ K) w (.bm f ds) x := fun x hr => by
      simp only [Rep] at hr ⊢
      obtain ⟨vals, rfl, h1⟩ := hr
      exact ⟨vals, rfl, hd.1 _ h1⟩
    exact ⟨key, fun b off' hr => RepRow.lift (fun _ => by simp) (fun _ => by simp) key hr, rfl⟩
  | _, _, .iface t v u h => by
    have hd := Fz.down hs hK hN h
    have key : ∀ x, Rep μ (Owned μ σ) w (.iface t v) x → Rep μ (Owned μ K) w (.iface t u) x := fun x hr => by
      simp only [Rep] at hr ⊢
      obtain ⟨y, rfl, h1⟩ := hr
      exact ⟨y, rfl, hd.1 _ h1⟩
    exact ⟨key, fun b off' hr => RepRow.lift (fun _ => by simp) (fun _ => by simp) key hr, rfl⟩
theorem FzL.down (hs : Sat w0 ow0 μ σ w) (hK : SubStore K σ) (hN : ∀ id, N id → K id = none) : ∀ {vs us : List V}, FzL σ N vs us → (∀ l, RepAll μ (Owned μ σ) w vs l → RepAll μ (Owned μ K) w us l) ∧
    (∀ b off, RepCells μ (Owned μ σ) w vs b off → RepCells μ (Owned μ K) w us b off) ∧ (∀ b off sz, RepRows μ (Owned μ σ) w vs b off sz → RepRows μ (Owned μ K) w us b off sz) ∧ us.length = vs.length
  | _, _, .nil => ⟨fun l h => by simpa [RepAll] using h, fun _ _ _ => by simp [RepCells], fun _ _ _ _ => by simp [RepRows], rfl⟩
  | _, _, .cons v u vs us h h' => by
    have hd := Fz.down hs hK hN h
    have hd' := FzL.down hs hK hN h'
    refine ⟨fun l hr => ?_, fun b off hr => ?_, fun b off sz hr => ?_, by simp [hd'.2.2.2]⟩
    · simp only [RepAll] at hr ⊢
      obtain ⟨x, xs, rfl, h1, h2⟩ := hr
      exact ⟨x, xs, rfl, hd.1 _ h1, hd'.1 _ h2⟩
    · simp only [RepCells] at hr ⊢
      obtain ⟨⟨x, h1, h2, h3⟩, h4⟩ := hr
      exact ⟨⟨x, h1, hd.1 _ h2, h3⟩, hd'.2.1 _ _ h4⟩
    · simp only [RepRows] at hr ⊢
      exact ⟨by rw [hd.2.2]; exact hr.1, hd.2.1 _ _ hr.2.1, hd'.2.2.1 _ _ _ hr.2.2⟩
end
theorem Fz.wk {v u : V} (h : Fz σ N v u) (hK : SubStore K σ) (hN : ∀ id, N id → K id = none) : Wk σ K v u := fun _ _ _ _ x hs hr => (Fz.down hs hK hN h).1 x hr
end
end Go.Vc
