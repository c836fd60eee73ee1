/- Part 9 of the library of this proof. -/
import Derived.Test.YtkmjiefaneibjaaGreatDoorW8
import Derived.KernelRfl
set_option linter.all false
namespace Go.Vc
structure YCf where
  cs : CS
  i : Nat
  stop : Bool
  log : List (List V)
inductive YOut where
  | nx (c : YCf)
  | ex (id : Nat) (c : YCf)
  | rt (c : YCf)
def bindL {α β : Type} (f : α → Option (List β)) : List α → Option (List β)
  | [] => some []
  | a :: l => match f a with
    | some x => (match bindL f l with
      | some y => some (x ++ y)
      | none => none)
    | none => none
def nxY (k : YCf → Option (List YOut)) (o : YOut) : Option (List YOut) := match o with
  | .nx c => k c
  | .ex id c => some [.ex id c]
  | .rt c => some [.rt c]
def bindY (o : Option (List YOut)) (k : YCf → Option (List YOut)) : Option (List YOut) := match o with
  | some l => bindL (nxY k) l
  | none => none
def unblk (id : Nat) (o : YOut) : YOut := match o with
  | .nx c => .nx c
  | .ex j c => @Bool.casesOn (fun _ => YOut) (Nat.beq j id) (.ex j c) (.nx c)
  | .rt c => .rt c
def plainY (c : YCf) (o : Out) : Option (List YOut) := match o with
  | .nx cs => some [.nx ⟨cs, c.i, c.stop, c.log⟩]
  | .ex id cs => some [.ex id ⟨cs, c.i, c.stop, c.log⟩]
  | .rt cs => some [.rt ⟨cs, c.i, c.stop, c.log⟩]
  | .bad => none
def nxs : List YCf → List YOut
  | [] => []
  | c :: l => .nx c :: nxs l
def yieldQ (xs : Option (List (List V))) (dst : Option Nat) (args : List V) (c : YCf) : Option (List YCf) := match xs with
  | none => @Bool.casesOn (fun _ => Option (List YCf)) (noidL args) none (some [⟨c.cs.put dst (.bool true), Nat.succ c.i, false, args :: c.log⟩])
  | some l => match l[c.i]? with
    | some x => @Bool.casesOn (fun _ => Option (List YCf)) (noidL args && (eqLQ (eqVQ 40) args x && !c.stop)) none
        (some [⟨c.cs.put dst (.bool true), Nat.succ c.i, false, []⟩, ⟨c.cs.put dst (.bool false), Nat.succ c.i, true, []⟩])
    | none => none
def endY (res : List VR) (dst : Option Nat) (c : YCf) (o : YOut) : Option (List YCf) := match o with
  | .ex _ _ => none
  | .nx c1 => (match resQ res c1.cs with
    | some r => some [⟨CS.put ⟨c.cs.s, r.σ, r.nxt⟩ dst r.v, c1.i, c1.stop, c1.log⟩]
    | none => none)
  | .rt c1 => (match resQ res c1.cs with
    | some r => some [⟨CS.put ⟨c.cs.s, r.σ, r.nxt⟩ dst r.v, c1.i, c1.stop, c1.log⟩]
    | none => none)
def callY (run : VCode → YCf → Option (List YOut)) (vf : VFn) (dst : Option Nat) (args : List V) (c : YCf) : Option (List YCf) :=
  @Bool.casesOn (fun _ => Option (List YCf)) (Nat.ble args.length vf.n) none (match run vf.code ⟨⟨Tr.ofL args 0 .e, c.cs.σ, c.cs.nxt⟩, c.i, c.stop, c.log⟩ with
    | some outs => bindL (endY vf.res dst c) outs
    | none => none)
def plnY (call : CallT) (i : VIns) (c : YCf) : Option (List YCf) := match (compI2 i).f call 0 c.cs with
  | some cs' => some [⟨cs', c.i, c.stop, c.log⟩]
  | none => none
def insY (T : Tb) (call : CallT) (run : VCode → YCf → Option (List YOut)) (xs : Option (List (List V))) (i : VIns) (c : YCf) : Option (List YCf) := match i.op with
  | .call fx args => (match wantV c.cs.sf i.g with
    | some true => (match fx.ev c.cs.sf with
      | .yl j => @Bool.casesOn (fun _ => Option (List YCf)) (Nat.beq j 0) none (yieldQ xs i.dst (args.map (·.ev c.cs.sf)) c)
      | .fn f caps => (match T.fn f with
        | some (.code vf) => callY run vf i.dst (args.map (·.ev c.cs.sf) ++ caps) c
        | _ => plnY call i c)
      | _ => plnY call i c)
    | some false => some [⟨c.cs.put i.dst (.tup []), c.i, c.stop, c.log⟩]
    | none => none)
  | _ => plnY call i c
def opsY (f : VIns → YCf → Option (List YCf)) : List VIns → YCf → Option (List YCf)
  | [], c => some [c]
  | i :: l, c => match f i c with
    | some cs => bindL (opsY f l) cs
    | none => none
def opsO (o : Option (List YCf)) : Option (List YOut) := match o with
  | some l => some (nxs l)
  | none => none
def onY (v : V) (a b : Option (List YOut)) : Option (List YOut) := match v with
  | .bool t => @Bool.casesOn (fun _ => Option (List YOut)) t b a
  | _ => none
def blkY (id : Nat) (o : Option (List YOut)) : Option (List YOut) := match o with
  | some l => some (l.map (unblk id))
  | none => none
def evY (T : Tb) (xs : Option (List (List V))) (fuel : Nat) : VCode → YCf → Option (List YOut) :=
  @Nat.rec (fun _ => VCode → YCf → Option (List YOut)) (fun _ _ => none)
    (fun f ih c y => match c with
      | .skip => some [.nx y]
      | .reg draw l => @Bool.casesOn (fun _ => Option (List YOut)) draw (opsO (opsY (insY T (evF2 (evL2 T f) T.fn) ih xs) l y)) (plainY y (evL2 T (f + 1) 0 (.reg true l) y.cs))
      | .seq a b => bindY (ih a y) (ih b)
      | .cond x a b => onY (x.ev y.cs.sf) (ih a y) (ih b y)
      | .block id a => blkY id (ih a y)
      | .loop a => bindY (ih a y) (ih (.loop a))
      | .exit id => some [.ex id y]
      | .ret => some [.rt y]
      | .rangeF g ps a b => plainY y (evL2 T (f + 1) 0 (.rangeF g ps a b) y.cs)
      | .regA l deps => plainY y (evL2 T (f + 1) 0 (.regA l deps) y.cs)
      | .regL l e => (match evOps2 true (evF2 (evL2 T f) T.fn) 0 l y.cs with
        | .nx cs' => opsO (opsY (insY T (evF2 (evL2 T f) T.fn) ih xs) e ⟨cs', y.i, y.stop, y.log⟩)
        | _ => none)
      | .bad => none) fuel
theorem bindL_mem {α β : Type} {f : α → Option (List β)} : ∀ {l : List α} {r : List β}, bindL f l = some r → ∀ a ∈ l, ∃ x, f a = some x ∧ ∀ b ∈ x, b ∈ r
  | [], _, _, a, ha => by simp at ha
  | a :: l, r, h, a', ha => by
    simp only [bindL] at h
    split at h
    · rename_i x hx
      split at h
      · rename_i y hy
        simp only [Option.some.injEq] at h; subst h
        rcases List.mem_cons.1 ha with rfl | ha
        · exact ⟨x, hx, fun b hb => List.mem_append_left _ hb⟩
        · obtain ⟨z, h1, h2⟩ := bindL_mem hy a' ha
          exact ⟨z, h1, fun b hb => List.mem_append_right _ (h2 b hb)⟩
      · cases h
    · cases h
theorem nxs_mem : ∀ {l : List YCf} {c : YCf}, c ∈ l → YOut.nx c ∈ nxs l
  | a :: l, c, h => by
    rcases List.mem_cons.1 h with rfl | h
    · simp [nxs]
    · simp [nxs, nxs_mem h]
variable {P : Program} {n : Nat}
section
variable {idl : Nat} {J Jx : List (List V) → Store → Prop} {xs : List (List V)}
def YI (J Jx : List (List V) → Store → Prop) (xs : List (List V)) (c : YCf) (σJ : Store) : Prop := (c.stop = false → J (xs.take c.i) σJ) ∧ (c.stop = true → ∃ pre, pre <+: xs ∧ Jx pre σJ)
def YR (idl : Nat) (J Jx : List (List V) → Store → Prop) (xs : List (List V)) (R : Nat → Nat → Prop) (c : YCf) (st : St) : Prop := R 0 idl ∧ ∃ σJ, YI J Jx xs c σJ ∧ SRel σJ 0 R c.cs st
def ThenY (P : Program) (idl : Nat) (J Jx : List (List V) → Store → Prop) (xs : List (List V)) (n : Nat) (R : Nat → Nat → Prop) (k : List It) (Q : St → Prop) : YOut → Prop
  | .nx c => ∀ R' st, Le R R' → YR idl J Jx xs R' c st → Runs P n k st Q
  | .ex id c => ∃ k', popTo id k = some k' ∧ ∀ R' st, Le R R' → YR idl J Jx xs R' c st → Runs P n k' st Q
  | .rt c => ∀ R' st, Le R R' → YR idl J Jx xs R' c st → Q st
theorem ThenY.le {R R' : Nat → Nat → Prop} {k : List It} {Q : St → Prop} {o : YOut} (h : ThenY P idl J Jx xs n R k Q o) (hle : Le R R') : ThenY P idl J Jx xs n R' k Q o := by
  cases o
  case ex => obtain ⟨k', h1, h2⟩ := h; exact ⟨k', h1, fun R'' st h3 h4 => h2 R'' st (hle.trans h3) h4⟩
  all_goals exact fun R'' st h3 h4 => h R'' st (hle.trans h3) h4
def HY (P : Program) (idl : Nat) (J Jx : List (List V) → Store → Prop) (xs : List (List V)) : Prop := ∀ pre x post σJ σ, xs = pre ++ x :: post → J pre σJ → SubStore σJ σ →
      YC P idl x σ fun b σ' => ∃ σJ', Beside σJ σ σJ' σ' ∧ ((b = true ∧ J (pre ++ [x]) σJ') ∨ (b = false ∧ Jx (pre ++ [x]) σJ'))
def LY (P : Program) (idl : Nat) (J Jx : List (List V) → Store → Prop) (xs : List (List V)) (run : VCode → YCf → Option (List YOut)) : Prop := ∀ (n : Nat) (R : Nat → Nat → Prop) (code : VCode) (c : YCf) (st : St) (k : List It) (Q : St → Prop) (outs : List YOut),
  okCode2 code = true → YR idl J Jx xs R c st → run code c = some outs → (∀ o ∈ outs, ThenY P idl J Jx xs n R k Q o) → Runs P n (.code code :: k) st Q
theorem code_okY {run : VCode → YCf → Option (List YOut)} (ih : LY P idl J Jx xs run) {g : FuncId} {vf : VFn} (hk : callable P g = true ∧ okFn2 vf = true ∧ ∃ fn, P.funcs[g]? = some fn ∧ cfn P fn = some vf) {args : List V} {c : YCf} {dst : Option Nat} {outs : List YOut} {rs : List YCf}
    (hlen : args.length ≤ vf.n) (hr : run vf.code ⟨⟨Tr.ofL args 0 .e, c.cs.σ, c.cs.nxt⟩, c.i, c.stop, c.log⟩ = some outs) (hrs : bindL (endY vf.res dst c) outs = some rs) {R : Nat → Nat → Prop} {σJ σ : Store} {args' : List V} (h0 : R 0 idl) (hI : YI J Jx xs c σJ)
    (hm : MRel σJ 0 R (stF c.cs.σ) c.cs.nxt σ) (hargs : VRelL R args args') :
    Contract P g args' σ fun v σ' => ∃ (c1 : YCf) (r : Rs) (R' : Nat → Nat → Prop) (σJ' : Store), (⟨CS.put ⟨c.cs.s, r.σ, r.nxt⟩ dst r.v, c1.i, c1.stop, c1.log⟩ : YCf) ∈ rs ∧ Le R R' ∧ VRel R' r.v v ∧ YI J Jx xs c1 σJ' ∧ MRel σJ' 0 R' (stF r.σ) r.nxt σ' := by
  obtain ⟨hcl, hok, fn, hf, hcf⟩ := hk
  simp only [okFn2, Bool.and_eq_true] at hok
  refine Contract.of_runs hf hcf hcl (by rw [hargs.length]; exact hlen) ?_
  have hs : SRel σJ 0 R ⟨Tr.ofL args 0 .e, c.cs.σ, c.cs.nxt⟩ ⟨argSlots args', σ⟩ := by
    refine ⟨fun i => ?_, hm⟩
    show VRel R (getP (.tup []) i (Tr.ofL args 0 .e)) (args'.getD i (.tup []))
    rw [ofL_get, getP_e]
    by_cases hi : i < args.length
    · rw [if_pos ⟨Nat.zero_le _, by omega⟩, Nat.sub_zero]
      obtain ⟨u, h1, h2⟩ := hargs.get (List.getElem?_eq_getElem hi)
      simp only [List.getD_eq_getElem?_getD, h1, List.getElem?_eq_getElem hi, Option.getD_some]
      exact h2
    · rw [if_neg (by omega)]
      have : args'[i]? = none := List.getElem?_eq_none (by rw [hargs.length]; omega)
      simp only [List.getD_eq_getElem?_getD, this, Option.getD_none]
      simp [VRel, VRelL]
  have hfin : ∀ c1, (∃ x, (match resQ vf.res c1.cs with | some r => some [(⟨CS.put ⟨c.cs.s, r.σ, r.nxt⟩ dst r.v, c1.i, c1.stop, c1.log⟩ : YCf)] | none => none) = some x ∧ ∀ b ∈ x, b ∈ rs) → ∀ R' st, Le R R' → YR idl J Jx xs R' c1 st →
      Ret vf.res st fun v σ' => ∃ (c1 : YCf) (r : Rs) (R' : Nat → Nat → Prop) (σJ' : Store), (⟨CS.put ⟨c.cs.s, r.σ, r.nxt⟩ dst r.v, c1.i, c1.stop, c1.log⟩ : YCf) ∈ rs ∧ Le R R' ∧ VRel R' r.v v ∧ YI J Jx xs c1 σJ' ∧ MRel σJ' 0 R' (stF r.σ) r.nxt σ' := by
    rintro c1 ⟨x, hx, hmem⟩ R' st hle ⟨_, σJ', hI', hs'⟩
    split at hx
    · rename_i r hq
      simp only [Option.some.injEq] at hx; subst hx
      have hq0 := hq
      unfold resQ at hq
      split at hq
      · rename_i v hv
        simp only [Option.some.injEq] at hq
        obtain ⟨v', g1, g2⟩ := resV_rel hs' hok.2 hv
        refine ⟨v', v', st.σ, g1, SubStore.refl _, Wk.refl (SubStore.refl _) _, c1, r, R', σJ', hmem _ (by simp), hle, ?_, hI', ?_⟩
        · rw [← hq]; exact g2
        · rw [← hq]; exact hs'.mem
      · cases hq
    · cases hx
  refine ih vf.n R vf.code ⟨⟨Tr.ofL args 0 .e, c.cs.σ, c.cs.nxt⟩, c.i, c.stop, c.log⟩ _ [] _ outs hok.1 ⟨h0, σJ, hI, hs⟩ hr fun o ho => ?_
  have hb := bindL_mem hrs o ho
  cases o with
  | nx c1 => exact fun R' st hle hs' => Runs.nil (hfin c1 hb R' st hle hs')
  | ex id c1 => obtain ⟨x, hx, _⟩ := hb; simp [endY] at hx
  | rt c1 => exact fun R' st hle hs' => hfin c1 hb R' st hle hs'
theorem YI.put {c : YCf} {cs : CS} {σJ : Store} (h : YI J Jx xs c σJ) : YI J Jx xs ⟨cs, c.i, c.stop, c.log⟩ σJ := h
theorem want_rel {R : Nat → Nat → Prop} {s s' : Nat → V} (h : ∀ i, VRel R (s i) (s' i)) {g : Option (VX × Bool)} (hg : (match g with | some (x, _) => okX x | none => true) = true) {b : Bool} (hw : wantV s g = some b) : wantV s' g = some b := by
  unfold wantV at hw ⊢
  split at hw
  · exact hw
  · rename_i x t
    have hv := ev_rel h (x := x) hg
    split at hw
    · rename_i c hc
      rw [hc, VRel.bool_iff] at hv
      rw [hv]; exact hw
    · rename_i hc
      rw [hc] at hv
      simp only [VRel, VRelL] at hv
      obtain ⟨_, hv, rfl⟩ := hv
      rw [hv]; exact hw
    · rename_i hc
      rw [hc, VRel.int_iff] at hv
      rw [hv]; exact hw
    · cases hw
theorem insY_run (hy : HY P idl J Jx xs) {T : Tb} (hT : TOk P T) {call : CallT} (hc : CallOk P call) {run : VCode → YCf → Option (List YOut)} (ih : LY P idl J Jx xs run) {i : VIns} {l : List VIns} {R : Nat → Nat → Prop} {c : YCf} {st : St} {k : List It} {Q : St → Prop} {cs : List YCf}
    (hok : okIns i = true) (h : YR idl J Jx xs R c st) (hr : insY T call run (some xs) i c = some cs)
    (hk : ∀ c' ∈ cs, ∀ R' st', Le R R' → YR idl J Jx xs R' c' st' → Runs P n (.ops l :: k) st' Q) : Runs P n (.ops (i :: l) :: k) st Q := by
  obtain ⟨h0, σJ, hI, hs⟩ := h
  have hplain : plnY call i c = some cs → Runs P n (.ops (i :: l) :: k) st Q := by
    intro hr
    unfold plnY at hr
    split at hr
    · rename_i cs' hcs
      simp only [Option.some.injEq] at hr; subst hr
      exact ins_run2 hc hok hs hcs fun R' st' hle hs' => hk _ (List.mem_singleton.2 rfl) R' st' hle ⟨hle _ _ h0, σJ, hI, hs'⟩
    · cases hr
  unfold insY at hr
  split at hr
  · rename_i fx args hop
    have hok' := hok
    simp only [okIns, Bool.and_eq_true] at hok'
    have hokx := hok'.1
    rw [hop] at hokx
    simp only [okOp, VOp.xs, List.all_cons, Bool.and_eq_true] at hokx
    have hgok : (match i.g with | some (x, _) => okX x | none => true) = true := by
      have := hok'.2
      revert this
      cases i.g with
      | none => simp
      | some x => simp
    split at hr
    · rename_i hw
      have hw' := want_rel hs.slot hgok hw
      split at hr
      · rename_i j hj
        rw [bcase] at hr
        split at hr
        · rename_i hj0
          have hj0 := Nat.eq_of_beq_eq_true hj0
          subst hj0
          have hfx := ev_rel hs.slot hokx.1.1
          rw [hj] at hfx
          simp only [VRel] at hfx
          obtain ⟨id', hfx, hR⟩ := hfx
          have : id' = idl := hs.mem.fn _ _ _ hR h0
          subst this
          simp only [yieldQ] at hr
          split at hr
          · rename_i x hx
            rw [brec] at hr
            split at hr
            · rename_i hcond
              simp only [Bool.and_eq_true, Bool.not_eq_true'] at hcond
              obtain ⟨hno, heq, hst⟩ := hcond
              have heq := eqLQ_eq (eqVQ_eq 40) heq
              simp only [Option.some.injEq] at hr; subst hr
              have hargs := evs_rel hs.slot hokx.1.2
              have hargs := noidL_eq _ _ hno hargs
              have hlt : c.i < xs.length := (List.getElem?_eq_some_iff.1 hx).1
              have hxs : xs = xs.take c.i ++ x :: xs.drop (c.i + 1) := by
                have h1 : xs[c.i] = x := (List.getElem?_eq_some_iff.1 hx).2
                rw [← h1, ← List.drop_eq_getElem_cons hlt, List.take_append_drop]
              have htk : xs.take c.i ++ [x] = xs.take (c.i + 1) := by
                have h1 : xs[c.i] = x := (List.getElem?_eq_some_iff.1 hx).2
                rw [List.take_add_one, hx]; rfl
              have hyc := hy (xs.take c.i) x _ σJ st.σ hxs (hI.1 hst) hs.mem.keep
              refine Runs.ycall hw' hop hfx (Post := fun b σ' => ∃ σJ', Beside σJ st.σ σJ' σ' ∧ ((b = true ∧ J (xs.take c.i ++ [x]) σJ') ∨ (b = false ∧ Jx (xs.take c.i ++ [x]) σJ'))) ?_ ?_
              · rw [hargs, heq]; exact hyc
              · rintro b σ' ⟨σJ', hb, hbb⟩
                have hm : MRel σJ' 0 R (stF c.cs.σ) c.cs.nxt σ' := by
                  have hnone : ∀ a o c1, R c1 a → stF c.cs.σ c1 = some o → σJ a = none := fun a o c1 hR ho => by
                    cases hj : σJ a with
                    | none => rfl
                    | some x => have := hs.mem.kfl a x c1 o hj hR ho; omega
                  refine ⟨hs.mem.dom, fun c1 a o hR ho => ?_, hs.mem.inj, hs.mem.fn, hb.1, fun a o c1 oc h1 h2 h3 => ?_⟩
                  · obtain ⟨rows', g1, g2⟩ := hs.mem.live c1 a o hR ho
                    exact ⟨rows', (hb.2 a _ (hnone a o c1 hR ho) g1).1, g2⟩
                  · obtain ⟨rows', g1, g2⟩ := hs.mem.live c1 a oc h2 h3
                    have := (hb.2 a _ (hnone a oc c1 h2 h3) g1).2
                    rw [this] at h1; cases h1
                have hS : SRel σJ' 0 R c.cs ⟨st.s, σ'⟩ := ⟨hs.slot, hm⟩
                rcases hbb with ⟨rfl, hJ⟩ | ⟨rfl, hJ⟩
                · refine hk ⟨c.cs.put i.dst (.bool true), Nat.succ c.i, false, []⟩ (by simp) R _ (Le.refl R) ⟨h0, σJ', ⟨fun _ => ?_, fun e => by simp at e⟩, hS.put (by simp [VRel])⟩
                  rw [htk] at hJ; exact hJ
                · exact hk ⟨c.cs.put i.dst (.bool false), Nat.succ c.i, true, []⟩ (by simp) R _ (Le.refl R) ⟨h0, σJ', ⟨fun e => by simp at e, fun _ => ⟨_, ⟨xs.drop (c.i + 1), by rw [List.append_assoc]; exact hxs.symm⟩, hJ⟩⟩, hS.put (by simp [VRel])⟩
            · cases hr
          · cases hr
        · cases hr
      · rename_i f caps hf
        split at hr
        · rename_i vf hvf
          have hkf := hT.fn f _ hvf
          have hfx := ev_rel hs.slot hokx.1.1
          rw [hf] at hfx
          simp only [VRel] at hfx
          obtain ⟨caps', hf', hcaps⟩ := hfx
          unfold callY at hr
          rw [bcase] at hr
          split at hr
          · rename_i hlen
            split at hr
            · rename_i outs houts
              refine Runs.call hw' hop hf' (code_okY ih hkf (Nat.le_of_ble_eq_true hlen) houts hr h0 hI hs.mem ((evs_rel hs.slot hokx.1.2).append hcaps)) ?_
              rintro v σ' ⟨c1, r, R', σJ', hmem, hle, hv, hI', hm'⟩
              have hS : SRel σJ' 0 R' ⟨c.cs.s, r.σ, r.nxt⟩ ⟨st.s, σ'⟩ := ⟨fun j => VRel.mono hle _ _ (hs.slot j), hm'⟩
              exact hk _ hmem R' _ hle ⟨hle _ _ h0, σJ', hI', hS.put hv⟩
            · cases hr
          · cases hr
        · exact hplain hr
      · exact hplain hr
    · rename_i hw
      have hw' := want_rel hs.slot hgok hw
      simp only [Option.some.injEq] at hr; subst hr
      exact Runs.skipIns hw' (hk _ (List.mem_singleton.2 rfl) R _ (Le.refl R) ⟨h0, σJ, hI, hs.put VRel.nilt⟩)
    · cases hr
  · exact hplain hr
theorem opsY_run {f : VIns → YCf → Option (List YCf)} {k : List It} {Q : St → Prop}
    (hins : ∀ (i : VIns) (l : List VIns) (R : Nat → Nat → Prop) (c : YCf) (st : St) (cs : List YCf), okIns i = true → YR idl J Jx xs R c st → f i c = some cs →
      (∀ c' ∈ cs, ∀ R' st', Le R R' → YR idl J Jx xs R' c' st' → Runs P n (.ops l :: k) st' Q) → Runs P n (.ops (i :: l) :: k) st Q) : ∀ (l : List VIns) (R : Nat → Nat → Prop) (c : YCf) (st : St) (outs : List YCf),
      l.all okIns = true → YR idl J Jx xs R c st → opsY f l c = some outs → (∀ c' ∈ outs, ∀ R' st', Le R R' → YR idl J Jx xs R' c' st' → Runs P n k st' Q) → Runs P n (.ops l :: k) st Q
  | [], R, c, st, outs, _, h, hr, hk => by
    simp only [opsY, Option.some.injEq] at hr; subst hr
    exact Runs.ops_nil (hk c (by simp) R st (Le.refl R) h)
  | i :: l, R, c, st, outs, hok, h, hr, hk => by
    simp only [List.all_cons, Bool.and_eq_true] at hok
    simp only [opsY] at hr
    split at hr
    · rename_i cs hcs
      refine hins i l R c st cs hok.1 h hcs fun c' hc' R' st' hle h' => ?_
      obtain ⟨x, h1, h2⟩ := bindL_mem hr c' hc'
      exact opsY_run hins l R' c' st' x hok.2 h' h1 fun c'' hc'' R'' st'' hle' h'' => hk c'' (h2 _ hc'') R'' st'' (hle.trans hle') h''
    · cases hr
theorem evY_succ (T : Tb) (xs : Option (List (List V))) (f : Nat) (c : VCode) (y : YCf) : evY T xs (f + 1) c y = match c with
      | .skip => some [.nx y]
      | .reg draw l => @Bool.casesOn (fun _ => Option (List YOut)) draw (opsO (opsY (insY T (evF2 (evL2 T f) T.fn) (evY T xs f) xs) l y)) (plainY y (evL2 T (f + 1) 0 (.reg true l) y.cs))
      | .seq a b => bindY (evY T xs f a y) (evY T xs f b)
      | .cond x a b => onY (x.ev y.cs.sf) (evY T xs f a y) (evY T xs f b y)
      | .block id a => blkY id (evY T xs f a y)
      | .loop a => bindY (evY T xs f a y) (evY T xs f (.loop a))
      | .exit id => some [.ex id y]
      | .ret => some [.rt y]
      | .rangeF g ps a b => plainY y (evL2 T (f + 1) 0 (.rangeF g ps a b) y.cs)
      | .regA l deps => plainY y (evL2 T (f + 1) 0 (.regA l deps) y.cs)
      | .regL l e => (match evOps2 true (evF2 (evL2 T f) T.fn) 0 l y.cs with
        | .nx cs' => opsO (opsY (insY T (evF2 (evL2 T f) T.fn) (evY T xs f) xs) e ⟨cs', y.i, y.stop, y.log⟩)
        | _ => none)
      | .bad => none := rfl
theorem evY_ok (hy : HY P idl J Jx xs) {T : Tb} (hT : TOk P T) : ∀ fuel, LY P idl J Jx xs (evY T (some xs) fuel) := by
  intro fuel
  induction fuel using Nat.strongRecOn with
  | _ fuel ih =>
    intro n R code c st k Q outs hok h hr hthen
    cases fuel with
    | zero => cases hr
    | succ f =>
      have ihf := ih f (by omega)
      have hcall := call_ok2 hT (evL2_ok hT f)
      have hplain : plainY c (evL2 T (f + 1) 0 code c.cs) = some outs → Runs P n (.code code :: k) st Q := by
        intro hr
        obtain ⟨h0, σJ, hI, hs⟩ := h
        refine evL2_ok hT (f + 1) n σJ 0 R code c.cs st k Q hok hs ?_
        generalize evL2 T (f + 1) 0 code c.cs = o at hr
        cases o with
        | nx cs' =>
          simp only [plainY, Option.some.injEq] at hr; subst hr
          have h1 := hthen _ (List.mem_singleton.2 rfl)
          exact fun R' st' hle hs' => h1 R' st' hle ⟨hle _ _ h0, σJ, hI, hs'⟩
        | ex id cs' =>
          simp only [plainY, Option.some.injEq] at hr; subst hr
          obtain ⟨k', h1, h2⟩ := hthen _ (List.mem_singleton.2 rfl)
          exact ⟨k', h1, fun R' st' hle hs' => h2 R' st' hle ⟨hle _ _ h0, σJ, hI, hs'⟩⟩
        | rt cs' =>
          simp only [plainY, Option.some.injEq] at hr; subst hr
          have h1 := hthen _ (List.mem_singleton.2 rfl)
          exact fun R' st' hle hs' => h1 R' st' hle ⟨hle _ _ h0, σJ, hI, hs'⟩
        | bad => simp [plainY] at hr
      have hops : ∀ (l : List VIns) (R : Nat → Nat → Prop) (c : YCf) (st : St), l.all okIns = true → YR idl J Jx xs R c st → opsO (opsY (insY T (evF2 (evL2 T f) T.fn) (evY T (some xs) f) (some xs)) l c) = some outs →
          (∀ o ∈ outs, ThenY P idl J Jx xs n R k Q o) → Runs P n (.ops l :: k) st Q := by
        intro l R c st hl h hr hthen
        unfold opsO at hr
        split at hr
        · rename_i cs hcs
          simp only [Option.some.injEq] at hr; subst hr
          refine opsY_run (fun i l R c st cs h1 h2 h3 h4 => insY_run hy hT hcall ihf h1 h2 h3 h4) l R c st cs hl h hcs fun c' hc' => ?_
          exact hthen _ (nxs_mem hc')
        · cases hr
      rw [evY_succ] at hr
      cases code with
      | skip =>
        simp only [Option.some.injEq] at hr; subst hr
        have h1 := hthen _ (List.mem_singleton.2 rfl)
        exact Runs.skip (h1 R st (Le.refl R) h)
      | reg draw l =>
        cases draw
        · simp only [okCode2] at hok
          exact Runs.region (hops l R c st hok h hr hthen)
        · exact hplain hr
      | seq a b =>
        simp only [okCode2, Bool.and_eq_true] at hok
        simp only [bindY] at hr
        split at hr
        · rename_i o1 ho1
          refine Runs.seq (ihf n R a c st _ Q o1 hok.1 h ho1 fun o ho => ?_)
          obtain ⟨x, h1, h2⟩ := bindL_mem hr o ho
          cases o with
          | nx c1 => exact fun R1 st1 hle1 hs1 => ihf n R1 b c1 st1 k Q x hok.2 hs1 h1 fun o ho => (hthen o (h2 o ho)).le hle1
          | ex id c1 =>
            simp only [nxY, Option.some.injEq] at h1; subst h1
            exact hthen _ (h2 _ (List.mem_singleton.2 rfl))
          | rt c1 =>
            simp only [nxY, Option.some.injEq] at h1; subst h1
            exact hthen _ (h2 _ (List.mem_singleton.2 rfl))
        · cases hr
      | cond x a b =>
        simp only [okCode2, Bool.and_eq_true] at hok
        obtain ⟨h0, σJ, hI, hs⟩ := h
        have hv := ev_rel hs.slot hok.1
        have hr : onY (x.ev c.cs.sf) (evY T (some xs) f a c) (evY T (some xs) f b c) = some outs := hr
        unfold onY at hr
        split at hr
        · rename_i t ht
          rw [ht, VRel.bool_iff] at hv
          refine Runs.cond hv (fun e => ?_) (fun e => ?_)
          · subst e; exact ihf n R a c st k Q outs hok.2.1 ⟨h0, σJ, hI, hs⟩ hr hthen
          · subst e; exact ihf n R b c st k Q outs hok.2.2 ⟨h0, σJ, hI, hs⟩ hr hthen
        · cases hr
      | block id a =>
        simp only [okCode2] at hok
        simp only [blkY] at hr
        split at hr
        · rename_i o1 ho1
          simp only [Option.some.injEq] at hr; subst hr
          refine Runs.block (ihf n R a c st _ Q o1 hok h ho1 fun o ho => ?_)
          have h1 := hthen _ (List.mem_map.2 ⟨o, ho, rfl⟩)
          cases o with
          | nx c1 => exact fun R1 st1 hle1 hs1 => Runs.inBlock (h1 R1 st1 hle1 hs1)
          | ex j c1 =>
            simp only [unblk, bcase] at h1
            by_cases hj : j = id
            · subst hj
              rw [if_pos (by rw [Nat.beq_eq])] at h1
              exact ⟨k, by simp [popTo], h1⟩
            · rw [if_neg (by rw [Nat.beq_eq]; exact hj)] at h1
              obtain ⟨k', h2, h3⟩ := h1
              exact ⟨k', by simp [popTo, hj, h2], h3⟩
          | rt c1 => exact h1
        · cases hr
      | loop a =>
        have hok' := hok
        simp only [okCode2] at hok
        have hr0 : evY T (some xs) (f + 1) (.loop a) c = some outs := hr
        refine Runs.loop (fun m st => m ≤ f + 1 ∧ ∃ R1 c1 o1, Le R R1 ∧ YR idl J Jx xs R1 c1 st ∧ evY T (some xs) m (.loop a) c1 = some o1 ∧ ∀ o ∈ o1, o ∈ outs) (f + 1) ⟨Nat.le_refl _, R, c, outs, Le.refl R, h, hr0, fun _ h => h⟩ ?_
        rintro m st1 ⟨hm, R1, c1, o1, hle1, hs1, ho1, hsub⟩
        cases m with
        | zero => cases ho1
        | succ m =>
          have ihm := ih m (by omega)
          rw [evY_succ] at ho1
          simp only [bindY] at ho1
          split at ho1
          · rename_i o2 ho2
            refine ihm n R1 a c1 st1 _ Q o2 hok hs1 ho2 fun o ho => ?_
            obtain ⟨x, h1, h2⟩ := bindL_mem ho1 o ho
            cases o with
            | nx c2 => exact fun R2 st2 hle2 hs2 => Runs.stop ⟨m, by omega, by omega, R2, c2, x, hle1.trans hle2, hs2, h1, fun o ho => hsub o (h2 o ho)⟩
            | ex id c2 =>
              simp only [nxY, Option.some.injEq] at h1; subst h1
              obtain ⟨k', h3, h4⟩ := hthen _ (hsub _ (h2 _ (List.mem_singleton.2 rfl)))
              exact ⟨k', by simpa [popTo] using h3, fun R2 st2 hle2 hs2 => h4 R2 st2 (hle1.trans hle2) hs2⟩
            | rt c2 =>
              simp only [nxY, Option.some.injEq] at h1; subst h1
              exact (hthen _ (hsub _ (h2 _ (List.mem_singleton.2 rfl)))).le hle1
          · cases ho1
      | exit id =>
        simp only [Option.some.injEq] at hr; subst hr
        obtain ⟨k', h1, h2⟩ := hthen _ (List.mem_singleton.2 rfl)
        exact Runs.exit h1 (h2 R st (Le.refl R) h)
      | ret =>
        simp only [Option.some.injEq] at hr; subst hr
        have h1 := hthen _ (List.mem_singleton.2 rfl)
        exact Runs.ret (h1 R st (Le.refl R) h)
      | rangeF g ps a b => exact hplain hr
      | regA l deps => exact hplain hr
      | regL l e =>
        simp only [okCode2, Bool.and_eq_true] at hok
        obtain ⟨h0, σJ, hI, hs⟩ := h
        simp only [evOps2] at hr
        rcases evOps3N_nx (call := evF2 (evL2 T f) T.fn) (fl := 0) 1000 l c.cs with ⟨cs', he⟩ | he
        · rw [he] at hr
          refine Runs.regL (ops_T3 hcall 1000 l R c.cs st he hok.1 hs fun R' st' hle hs' => ?_)
          exact hops e R' ⟨cs', c.i, c.stop, c.log⟩ st' hok.2 ⟨hle _ _ h0, σJ, hI, hs'⟩ hr fun o ho => (hthen o ho).le hle
        · rw [he] at hr; cases hr
      | bad => cases hr
end
def vfOf (P : Program) (f : FuncId) : Option VFn := match P.funcs[f]? with
  | some fn => (match cfn P fn with
    | some vf => @Bool.casesOn (fun _ => Option VFn) (callable P f && okFn2 vf) none (some vf)
    | none => none)
  | none => none
theorem vfOf_ok {f : FuncId} {vf : VFn} (h : vfOf P f = some vf) : callable P f = true ∧ okFn2 vf = true ∧ ∃ fn, P.funcs[f]? = some fn ∧ cfn P fn = some vf := by
  unfold vfOf at h
  split at h
  · rename_i fn hfn
    split at h
    · rename_i vf' hvf
      rw [bcase] at h
      split at h
      · rename_i hc
        simp only [Bool.and_eq_true] at hc
        simp only [Option.some.injEq] at h; subst h
        exact ⟨hc.1, hc.2, fn, hfn, hvf⟩
      · cases h
    · cases h
  · cases h
def recY : List YOut → Option (List (List V))
  | [.nx c] => some c.log.reverse
  | [.rt c] => some c.log.reverse
  | _ => none
def finY (n : Nat) (c : YCf) : Bool := @Bool.casesOn (fun _ => Bool) c.stop (Nat.beq c.i n) true
def c0Y (caps : List V) : YCf := ⟨⟨Tr.ofL (.yl 0 :: caps) 0 .e, .e, 1⟩, 0, false, []⟩
def itY (T : Tb) (fuel : Nat) (vf : VFn) (caps : List V) : Option (List (List V)) := @Bool.casesOn (fun _ => Option (List (List V))) (Nat.ble (Nat.succ caps.length) vf.n) none
  (match evY T none fuel vf.code (c0Y caps) with
    | some o1 => (match recY o1 with
      | some xs => (match evY T (some xs) fuel vf.code (c0Y caps) with
        | some o2 => (match bindL (endY vf.res none (c0Y caps)) o2 with
          | some rs => @Bool.casesOn (fun _ => Option (List (List V))) (rs.all (finY xs.length)) none (some xs)
          | none => none)
        | none => none)
      | none => none)
    | none => none)
theorem itY_ok {T : Tb} (hT : TOk P T) {fuel : Nat} {g : FuncId} {vf : VFn} (hk : callable P g = true ∧ okFn2 vf = true ∧ ∃ fn, P.funcs[g]? = some fn ∧ cfn P fn = some vf) {caps : List V} {xs : List (List V)} (h : itY T fuel vf caps = some xs) (hn : noidL caps = true) : Iter P g caps xs := by
  unfold itY at h
  rw [bcase] at h
  split at h
  · rename_i hlen
    split at h
    · split at h
      · split at h
        · rename_i o2 ho2
          split at h
          · rename_i rs hrs
            rw [bcase] at h
            split at h
            · rename_i hfin
              simp only [Option.some.injEq] at h; subst h
              refine ⟨hk.1, fun idl J Jx σ0 hy hJ => ?_⟩
              have hm : MRel σ0 0 (fun a b => a = 0 ∧ b = idl) (stF .e) 1 σ0 := ⟨fun _ _ h => by omega, fun c a o _ h => by simp [stF, getP_e] at h, fun c c' a o o' _ _ h => by simp [stF, getP_e] at h, fun c a a' h1 h2 => h1.2.trans h2.2.symm, SubStore.refl σ0, fun a o c oc _ _ h => by simp [stF, getP_e] at h⟩
              refine ((code_okY (c := c0Y caps) (args := .yl 0 :: caps) (args' := .yl idl :: caps) (σJ := σ0) (evY_ok hy hT fuel) hk (Nat.le_of_ble_eq_true hlen) ho2 hrs ⟨rfl, rfl⟩ ⟨fun _ => by simpa [c0Y] using hJ, fun e => by simp [c0Y] at e⟩ hm ?_).drop ?_).2
              · exact VRelL.cons_iff.2 ⟨_, _, rfl, by simp only [VRel]; exact ⟨idl, rfl, trivial, rfl⟩, noidL_refl caps hn⟩
              · rintro r σ' ⟨c1, r', R', σJ', hmem, -, -, hI, hm'⟩
                refine ⟨σJ', hm'.keep, ?_⟩
                have hf := List.all_eq_true.1 hfin _ hmem
                simp only [finY, bcase] at hf
                cases hst : c1.stop with
                | true => exact .inr (hI.2 hst)
                | false =>
                  simp only [hst, Bool.false_eq_true, if_false, Nat.beq_eq] at hf
                  have := hI.1 hst
                  rw [hf, List.take_length] at this
                  exact .inl this
            · cases h
          · cases h
        · cases h
      · cases h
    · cases h
  · cases h
def upT (P : Program) (fuel : Nat) (T : Tb) : Tb := ⟨T.fn, fun g => match vfOf P g with
  | some vf => some (itY T fuel vf)
  | none => none⟩
theorem upT_ok {T : Tb} (hT : TOk P T) (fuel : Nat) : TOk P (upT P fuel T) := by
  refine ⟨hT.mix, hT.fn, fun g h hg caps xs hx hn => ?_⟩
  simp only [upT] at hg
  split at hg
  · rename_i vf hvf
    simp only [Option.some.injEq] at hg; subst hg
    exact itY_ok hT (vfOf_ok hvf) hx hn
  · cases hg
end Go.Vc
namespace Go.Vc
variable {P : Program}
abbrev Ex := FuncId × List V × V
def ExOk (P : Program) (E : List Ex) : Prop := ∀ e ∈ E, PFun P e.1 e.2.1 e.2.2
theorem ExOk.nil : ExOk P [] := fun _ h => by cases h
theorem ExOk.cons {E : List Ex} {f : FuncId} {args : List V} {v : V} (hp : PFun P f args v) (h : ExOk P E) : ExOk P ((f, args, v) :: E) := fun e he => by
  rcases List.mem_cons.1 he with rfl | he
  · exact hp
  · exact h e he
def findE (f : FuncId) (args : List V) : List Ex → Option V
  | [] => none
  | e :: E => @Bool.casesOn (fun _ => Option V) (Nat.beq e.1 f && eqLQ (eqVQ 40) e.2.1 args) (findE f args E) (some e.2.2)
theorem findE_ok {f : FuncId} {args : List V} {v : V} : ∀ {E : List Ex}, ExOk P E → findE f args E = some v → PFun P f args v
  | [], _, h => by cases h
  | e :: E, hE, h => by
    simp only [findE, bcase] at h
    split at h
    · rename_i hc
      simp only [Bool.and_eq_true] at hc
      simp only [Option.some.injEq] at h; subst h
      have := hE e (by simp)
      rw [Nat.eq_of_beq_eq_true hc.1, eqLQ_eq (eqVQ_eq 40) hc.2] at this
      exact this
    · exact findE_ok (fun e he => hE e (List.mem_cons_of_mem _ he)) h
def hasE (f : FuncId) : List Ex → Bool
  | [] => false
  | e :: E => @Bool.casesOn (fun _ => Bool) (Nat.beq e.1 f) (hasE f E) true
def orcE (E : List Ex) (f : FuncId) : Option (List V → Option V) := @Bool.casesOn (fun _ => Option (List V → Option V)) (hasE f E) none (some fun args => findE f args E)
def noneOf (f : FuncId) : List FuncId → Bool
  | [] => true
  | g :: l => @Bool.casesOn (fun _ => Bool) (Nat.beq g f) (noneOf f l) false
noncomputable def tE (P : Program) (z : List FuncId) (E : List Ex) : Tb := upT P 2000 (upT P 2000 (upT P 2000 ⟨tbF P (fun f => noneOf f z) (orcE E), fun _ => none⟩))
theorem tE_ok (hm : P.follows .mixedOrders = true) (z : List FuncId) {E : List Ex} (hE : ExOk P E) : TOk P (tE P z E) :=
  upT_ok (upT_ok (upT_ok (tbF_ok hm _ (fun f g h as1 v hv _ _ => by
    simp only [orcE, bcase] at h
    split at h
    · simp only [Option.some.injEq] at h; subst h
      exact findE_ok hE hv
    · cases h) (fun _ _ h => by cases h)) 2000) 2000) 2000
theorem ex_of (hm : P.follows .mixedOrders = true) (z : List FuncId) {E : List Ex} (hE : ExOk P E) {f : FuncId} {args : List V} {v : V} (ha : noidL args = true) (h : ev3B P (tE P z E) 3000 f args v = true) : PFun P f args v :=
  PFun.of_ev3 (tE_ok hm z hE) 3000 ha h
end Go.Vc
namespace Go.Vc
open Go.Proofs
theorem ex34_parse : PFun Tryz.prog 6 [.str [49, 32, 50, 32, 51, 10, 48, 49, 32, 50, 32, 51, 10]] (.tup [.sl 3 [], .int .i64 2, .int .i64 1]) := by
  have h := iparse_c [49, 32, 50, 32, 51, 10, 48, 49, 32, 50, 32, 51, 10] (by decide)
  generalize hx : ([49, 32, 50, 32, 51, 10, 48, 49, 32, 50, 32, 51, 10] : List UInt8) = x at h
  have e : parseV (parseL (x.length + 1) x 1 []) = .tup [.sl 3 [], .int .i64 2, .int .i64 1] := by subst hx; kernel_rfl
  rw [e] at h
  subst hx
  exact h
theorem ex34_text : PFun Tryz.prog 8 [.sl 3 [.agg [.int .i64 (-1), .int .i64 0, .int .i64 0]]] (.str []) := by
  have h := itext_c [⟨-1, 0, 0⟩] (by decide)
  have e : textR [⟨-1, 0, 0⟩] = [] := by decide
  rw [e] at h
  exact h
end Go.Vc
