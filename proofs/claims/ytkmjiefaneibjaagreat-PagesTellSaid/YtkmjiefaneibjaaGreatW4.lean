/- Part 4 of the library of this proof. -/
import Derived.Test.YtkmjiefaneibjaaGreatW3
set_option linter.all false
namespace Go.Vc
variable {P : Program} {n : Nat} {st : St} {Q : St → Prop} {k : List It}
theorem T.pure {P : Program} {i : VIns} {x : St} {K : St → Prop} {v : V} (hw : wantV x.s i.g = some true) (hk : okind i.op = 0) (hp : vpre x.s i.op) (hv : vpure x.σ x.s i.op = some v) (h : K ⟨putO x.s i.dst v, x.σ⟩) : T P i x K := by
  unfold T
  simp only [hw]
  unfold TO
  simp only [hk]
  exact ⟨hp, v, hv, h⟩
theorem T.store {P : Program} {d : Option Nat} {sz : Nat} {xa xv : VX} {x : St} {K : St → Prop} {σ' : Store} (hv : storeS x.σ sz (xa.ev x.s) (xv.ev x.s) = some σ') (h : K ⟨putO x.s d (.tup []), σ'⟩) :
    T P ⟨d, .store sz xa xv, none⟩ x K := ⟨σ', hv, h⟩
theorem readyV_mem {deps : List (List Nat)} {listed : List Nat} {i : Nat} (h : i ∈ readyV deps listed) : i < deps.length ∧ i ∉ listed ∧ ∀ k ∈ deps.getD i [], k ∈ listed := by
  unfold readyV at h
  obtain ⟨h1, h2⟩ := List.mem_filter.1 h
  simp only [Bool.and_eq_true, Bool.not_eq_true', List.all_eq_true] at h2
  exact ⟨by simpa using h1, by simpa using h2.1, fun k hk => by simpa using h2.2 k hk⟩
theorem pigeon : ∀ (n : Nat) (L : List Nat), L.Nodup → (∀ k ∈ L, k < n) → L.length ≤ n ∧ (L.length = n → ∀ k, k < n → k ∈ L)
  | 0, L, _, h => by
    cases L with
    | nil => simp
    | cons a L => have := h a (by simp); omega
  | n + 1, L, hd, h => by
    by_cases hn : n ∈ L
    · have h1 := pigeon n (L.erase n) (hd.erase n) fun k hk => by
        have h2 := h k (List.mem_of_mem_erase hk)
        have h3 : k ≠ n := fun e => by subst e; exact (List.Nodup.not_mem_erase hd) hk
        omega
      have h4 := List.length_erase_of_mem hn
      have h5 : 0 < L.length := List.length_pos_of_mem hn
      refine ⟨by omega, fun he k hk => ?_⟩
      by_cases hkn : k = n
      · rw [hkn]; exact hn
      · exact List.mem_of_mem_erase (h1.2 (by omega) k (by omega))
    · have h1 := pigeon n L hd fun k hk => by
        have h2 := h k hk
        have h3 : k ≠ n := fun e => hn (e ▸ hk)
        omega
      exact ⟨by omega, fun he => by omega⟩
end Go.Vc
namespace Go.Vc
variable {P : Program} {n : Nat} {st : St} {Q : St → Prop} {k : List It}
def TC (P : Program) (i : VIns) (x : St) (K : St → Prop) : Prop := T P i x K ∨ (wantV x.s i.g = some true ∧ match i.op with
  | .call fx xs => ∃ f caps Post, fx.ev x.s = .fn f caps ∧ Contract P f (xs.map (·.ev x.s) ++ caps) x.σ Post ∧ ∀ r σ', Post r σ' → K ⟨putO x.s i.dst r, σ'⟩
  | _ => False)
theorem TC.mono {i : VIns} {x : St} {K K' : St → Prop} (hk : ∀ x, K x → K' x) (h : TC P i x K) : TC P i x K' := by
  rcases h with h | ⟨h1, h2⟩
  · exact .inl (h.mono hk)
  · refine .inr ⟨h1, ?_⟩
    split at h2
    · obtain ⟨f, caps, Post, g1, g2, g3⟩ := h2
      exact ⟨f, caps, Post, g1, g2, fun r σ' hp => hk _ (g3 r σ' hp)⟩
    · exact h2.elim
theorem TC_sound {F : Fr} (hn : F.n = n) {o : Oper} {all : Array Oper} {x : St} {K : St → Prop} {a : Act} {w : World} (h : TC P (cins P n all o) x K) (hs : SatF F x a w)
    {next : Act → World → Prop} {Q' : Exit → Act → World → Prop} (hnext : ∀ x' a' w', SatF F x' a' w' → K x' → next a' w') :
    if Region.wanted o (yielded all a.tmps) then cop P n o.op ≠ .bad ∧ o.wp P a w next Q' else next (a.put o.dst undef) w := by
  rcases h with h | ⟨hw, h⟩
  · exact T_sound hn h hs hnext
  subst hn
  obtain ⟨μ, hs⟩ := hs
  have hwant := want_of (P := P) hs all o hw
  rw [hwant]
  simp only [if_true]
  have hdst : (cins P F.n all o).dst = o.dst.filter (· < F.n) := rfl
  have hopc : (cins P F.n all o).op = cop P F.n o.op := rfl
  rw [hdst, hopc] at h
  split at h
  · rename_i fx xs hop
    refine ⟨fun e => ?_, ?_⟩
    · rw [hop] at e; cases e
    obtain ⟨f, caps, Post, h1, h2, h3⟩ := h
    obtain ⟨f0, args, argTypes, g1, rfl, rfl⟩ := cop_call hop
    refine call_sound hs g1 h1 h2 fun r σ' hp a' w' hs' => ?_
    exact hnext _ a' w' hs' (h3 r σ' hp)
  · exact h.elim
def TnC (P : Program) (n : Nat) (ops : Array Oper) (i : Nat) (x : St) (K : St → Prop) : Prop := match ops[i]? with
  | some o => TC P (cins P n ops o) x K
  | none => K x
def wpAnyTC (P : Program) (n : Nat) (ops : Array Oper) (Q : St → Prop) : Nat → Array Bool → St → Prop
  | 0, listed, x => Region.ready .any ops listed = [] ∧ Q x
  | f + 1, listed, x => (Region.ready .any ops listed = [] → Q x) ∧ ∀ i ∈ Region.ready .any ops listed, TnC P n ops i x (wpAnyTC P n ops Q f (listed.setIfInBounds i true))
theorem wpAny_of_TC {F : Fr} (hn : F.n = n) {ops : Array Oper} {Q : St → Prop} {Q' : Exit → Act → World → Prop} (hQ : ∀ x a w, SatF F x a w → Q x → Q' .normal a w) :
    ∀ (f : Nat) (listed : Array Bool) (x : St) (a : Act) (w : World), SatF F x a w → wpAnyTC P n ops Q f listed x → wpAnyIn F.fence 0 P .any ops Q' f listed a w
  | 0, _, _, _, _, hs, h => ⟨h.1, hQ _ _ _ hs h.2⟩
  | f + 1, listed, x, a, w, hs, h => by
    refine ⟨fun h0 => hQ _ _ _ hs (h.1 h0), fun i hi => ?_⟩
    have h1 := h.2 i hi
    unfold TnC at h1
    unfold wpOpIn
    cases ho : ops[i]? with
    | none =>
      simp only [ho] at h1
      exact wpAny_of_TC hn hQ f _ x a w hs h1
    | some o =>
      simp only [ho] at h1
      have h2 := TC_sound (Q' := Q') hn h1 hs fun x' a' w' hs' hk => wpAny_of_TC hn hQ f _ x' a' w' hs' hk
      by_cases hw : Region.wanted o (yielded ops a.tmps) = true
      · rw [if_pos hw] at h2
        simp only [hw, if_true]
        exact opIn (cop_defer h2.1) h2.2
      · rw [if_neg hw] at h2
        simp only [hw]
        exact ⟨fun _ _ => trivial, h2⟩
def allVC (P : Program) (l : List VIns) (rec : List Nat → St → Prop) (listed : List Nat) (x : St) : List Nat → Prop
  | [] => True
  | i :: is => (match l[i]? with
      | some ins => TC P ins x (rec (i :: listed))
      | none => False) ∧ allVC P l rec listed x is
def anyVC (P : Program) (l : List VIns) (deps : List (List Nat)) (Q : St → Prop) : Nat → List Nat → St → Prop
  | 0, listed, x => readyV deps listed = [] ∧ Q x
  | f + 1, listed, x => match readyV deps listed with
      | [] => Q x
      | i :: is => allVC P l (anyVC P l deps Q f) listed x (i :: is)
theorem allV_memC {l : List VIns} {rec : List Nat → St → Prop} {listed : List Nat} {x : St} : ∀ {is : List Nat}, allVC P l rec listed x is → ∀ i ∈ is, ∃ ins, l[i]? = some ins ∧ TC P ins x (rec (i :: listed))
  | [], _, _, hi => by cases hi
  | j :: is, h, i, hi => by
    obtain ⟨h1, h2⟩ := h
    rcases List.mem_cons.1 hi with rfl | hi
    · cases hl : l[i]? with
      | none => rw [hl] at h1; exact h1.elim
      | some ins => rw [hl] at h1; exact ⟨ins, rfl, h1⟩
    · exact allV_memC h2 i hi
theorem wpAnyT_of_anyVC {ops : Array Oper} {Q : St → Prop} : ∀ (f : Nat) (arr : Array Bool) (listed : List Nat) (x : St), arr.size = ops.size → (∀ i, i < ops.size → arr.getD i true = listed.contains i) →
    (∀ i ∈ listed, i < ops.size) → anyVC P (ops.toList.map (cins P n ops)) (depsOf ops) Q f listed x → wpAnyTC P n ops Q f arr x
  | 0, arr, listed, x, hs, hl, ho, h => ⟨by rw [readyV_eq hs hl ho]; exact h.1, h.2⟩
  | f + 1, arr, listed, x, hs, hl, ho, h => by
    have hr := readyV_eq hs hl ho
    unfold anyVC at h
    refine ⟨fun h0 => ?_, fun i hi => ?_⟩
    · rw [hr] at h0
      rw [h0] at h
      exact h
    · rw [hr] at hi
      have hlt : i < ops.size := by
        have := (List.mem_filter.1 hi).1
        simpa [depsOf] using this
      have hall : allVC P (ops.toList.map (cins P n ops)) (anyVC P (ops.toList.map (cins P n ops)) (depsOf ops) Q f) listed x (readyV (depsOf ops) listed) := by
        cases hrr : readyV (depsOf ops) listed with
        | nil => exact trivial
        | cons j js => rw [hrr] at h; exact h
      obtain ⟨ins, h1, h2⟩ := allV_memC hall i hi
      have h3 : ops[i]? = some ops[i] := Array.getElem?_eq_getElem hlt
      have h4 : ins = cins P n ops ops[i] := by simpa [hlt] using h1.symm
      unfold TnC
      simp only [h3]
      rw [← h4]
      refine h2.mono fun x' hx' => wpAnyT_of_anyVC f _ (i :: listed) x' (by simpa using hs) (fun j hj => ?_) (fun j hj => ?_) hx'
      · by_cases e : j = i
        · subst e
          rw [Array.getD_eq_getD_getElem?, Array.getElem?_setIfInBounds_self_of_lt (by omega)]
          simp
        · rw [Array.getD_eq_getD_getElem?, Array.getElem?_setIfInBounds_ne (fun e' => e e'.symm), ← Array.getD_eq_getD_getElem?, hl j hj]
          simp [e]
      · rcases List.mem_cons.1 hj with rfl | hj
        · exact hlt
        · exact ho j hj
theorem Runs.regAC (hm : P.follows .mixedOrders = true) {l : List VIns} {deps : List (List Nat)} (h : anyVC P l deps (fun x => Runs P n k x Q) l.length [] st) : Runs P n (.code (.regA l deps) :: k) st Q := by
  intro F hn kt hk a w hs
  obtain ⟨z, kt', rfl, hy, hk'⟩ := kt_cons hk
  obtain ⟨c0, rfl, hcc⟩ := it_code hy
  have hc0 : ∃ id ops, c0 = .region id ops true ∧ ops.toList.map (cins P n ops) = l ∧ depsOf ops = deps := by
    cases c0 <;> simp only [ccode, reduceCtorEq] at hcc
    rename_i id ops draw
    cases draw
    · simp at hcc
    · simp only [Bool.true_and] at hcc
      split at hcc
      · cases hcc
      split at hcc
      · simp only [VCode.regA.injEq] at hcc
        exact ⟨id, ops, rfl, hcc.1, hcc.2⟩
      · simp at hcc
  obtain ⟨id, ops, rfl, rfl, rfl⟩ := hc0
  have hs' : SatF F st a { w with drawn := w.drawn + 1 } := by
    obtain ⟨μ, hs⟩ := hs
    have hk : Keeps (Owned μ st.σ) (Owned μ st.σ) w { w with drawn := w.drawn + 1 } := fun _ _ h => ⟨h, rfl⟩
    refine ⟨μ, ⟨⟨hs.sat.size, hs.sat.os, hs.sat.tape, hs.sat.output, hs.sat.same, hs.sat.fin, hs.sat.inj, fun id o ho => ?_, hs.sat.fresh, hs.sat.glob⟩, hs.le, hs.size, hs.book.keep hk, fun i hi => ?_⟩⟩
    · exact (hs.sat.obj id o ho).mono (MuLe.refl μ) hk (Nat.le_refl _) (fun _ _ _ _ => rfl)
    · exact Rep.mono (MuLe.refl μ) hk (Nat.le_refl _) _ _ (hs.slot i hi)
  refine wpIn_region_any hm (wpAny_of_TC (Q := fun x => Runs P n k x Q) hn (fun x a w hs h => h F hn kt' hk' a w hs) _ _ _ _ _ hs' ?_)
  have := wpAnyT_of_anyVC (P := P) (n := n) (Q := fun x => Runs P n k x Q) (ops := ops) ops.size (Array.replicate ops.size false) [] st (by simp) (fun i hi => by
    rw [Array.getD_eq_getD_getElem?, Array.getElem?_replicate, if_pos hi]; simp) (by simp) (by simpa using h)
  exact this
theorem allV_ofC {l : List VIns} {rec : List Nat → St → Prop} {listed : List Nat} {x : St} : ∀ {is : List Nat}, (∀ i ∈ is, ∃ ins, l[i]? = some ins ∧ TC P ins x (rec (i :: listed))) → allVC P l rec listed x is
  | [], _ => trivial
  | j :: is, h => by
    obtain ⟨ins, h1, h2⟩ := h j (by simp)
    refine ⟨by rw [h1]; exact h2, allV_ofC fun i hi => h i (by simp [hi])⟩
end Go.Vc
namespace Go.Vc
variable {P : Program} {n : Nat} {st : St} {Q : St → Prop} {k : List It} {μ : Mu} {w : World}
theorem clearN_sound {F : Fr} {a : Act} (hs : SatM F μ st a w) {o : Oper} {x : Operand} {t e : TypeId} {args : Array Operand} {argTypes : Array TypeId} {i : TypeInfo} {z : Value}
    (hoo : o.op = .call { callee := .builtin .clear, args := args, argTypes := argTypes }) (harg : args = #[x]) (hty : argTypes[0]? = some t)
    (ht : P.underlying t = some (.slice e)) (hz : zeroOf P e = some (i, z)) (h1 : (cx F.n x).ev st.s = .nils) :
    ∃ y w', (execOp a.eval o).run P w = .ok (.value y) w' ∧ SatM F μ ⟨putO st.s (o.dst.filter (· < F.n)) (.tup []), st.σ⟩ (a.put o.dst y) w' := by
  have hx := rep_cx hs x
  rw [h1] at hx
  simp only [Rep] at hx
  have hrun : ∀ w', (Builtin.clear_ argTypes o.type #[a.eval x]).run P w = .ok (.tuple #[]) w' → (execOp a.eval o).run P w = .ok (.value (.tuple #[])) w' := by
    intro w' hw'
    unfold execOp
    rw [hoo]
    simp [resolve, invoke, Go.builtin, harg, hw']
  have hrep : Rep μ (Owned μ st.σ) w (.tup []) (.tuple #[]) := by simp only [Rep]; exact ⟨[], rfl, by simp [RepAll]⟩
  refine ⟨.tuple #[], w, hrun w ?_, hs.pure hrep⟩
  rw [hx]
  simp [Builtin.clear_, hty, run_underlying ht]
theorem Runs.clearN {i : VIns} {l : List VIns} {sz : Nat} {z : V} {xv : VX} (hw : wantV st.s i.g = some true) (ho : i.op = .clear sz z xv) (h1 : xv.ev st.s = .nils)
    (h : Runs P n (.ops l :: k) ⟨putO st.s i.dst (.tup []), st.σ⟩ Q) : Runs P n (.ops (i :: l) :: k) st Q := by
  refine Runs.ins (by rw [ho]; simp) hw fun F hn μ a w o all hi hs next Q' hnext => ?_
  subst hn
  obtain ⟨hop, hd⟩ := cins_op hi
  rw [ho] at hop
  obtain ⟨x, t, e, args, argTypes, ti, zv, g1, g2, g3, g4, g5, rfl, rfl, rfl⟩ := cop_clear hop
  obtain ⟨y, w', hx, hs'⟩ := clearN_sound hs g1 g2 g3 g4 g5 h1
  unfold Oper.wp
  rw [hx]
  refine hnext _ _ _ ⟨μ, ?_⟩ h
  rw [← hd]
  exact hs'
end Go.Vc
namespace Go.Vc
abbrev vI (n : Int) : V := .int .i64 n
structure Sty where
  (top bottom padTop padBottom inset orphans widows head before after inside clear : Int)
deriving DecidableEq
def Sty.cells (s : Sty) : List V := [vI s.top, vI s.bottom, vI s.padTop, vI s.padBottom, vI s.inset, vI s.orphans, vI s.widows, vI s.head, vI s.before, vI s.after, vI s.inside, vI s.clear]
structure Nd where
  (kind size : Int)
  (st : Sty)
  (line space : Int)
  (words : List Int)
  (side w h : Int)
deriving DecidableEq
def encI (l : List Int) : V := .sl 1 (l.map vI)
def Nd.cells (x : Nd) : List V := [vI x.kind, vI x.size, vI x.st.top, vI x.st.bottom, vI x.st.padTop, vI x.st.padBottom, vI x.st.inset, vI x.st.orphans, vI x.st.widows, vI x.st.head, vI x.st.before, vI x.st.after, vI x.st.inside, vI x.st.clear,
  vI x.line, vI x.space, encI x.words, vI x.side, vI x.w, vI x.h]
def mx : Int := 1099511627776
def isFrom (n a b : Int) : Bool := decide (n ≥ a ∧ n ≤ b)
def Sty.ok (s : Sty) : Bool := isFrom s.top 0 mx && isFrom s.bottom 0 mx && isFrom s.padTop 0 mx && isFrom s.padBottom 0 mx && isFrom s.inset 0 mx && isFrom s.orphans 1 mx && isFrom s.widows 1 mx && isFrom s.head 0 mx &&
  isFrom s.before 0 4 && isFrom s.after 0 4 && isFrom s.inside 0 1 && isFrom s.clear 0 3
def Sty.zero : Sty := ⟨0, 0, 0, 0, 0, 0, 0, 0, 0, 0, 0, 0⟩
end Go.Vc
namespace Go.Vc
open Go.Proofs
structure Fg where
  a : Int
  b : Int
  c : Int
  d : Int
  e : Int
  f : Int
  g : Int
def encF (x : Fg) : V := .agg [vI x.a, vI x.b, vI x.c, vI x.d, vI x.e, vI x.f, vI x.g]
def encFs (l : List Fg) : V := .sl 7 (l.map encF)
structure Pg where
  no : Int
  kind : Int
  hs : List Fg
  fs : List Fg
  ls : List Fg
def encP (p : Pg) : V := .agg [vI p.no, vI p.kind, encFs p.hs, encFs p.fs, encFs p.ls]
def encPs (l : List Pg) : V := .sl 5 (l.map encP)
def cntK (l : List Pg) (k : Int) : Nat := (l.filter fun p => decide (p.kind = k)).length
theorem cntK_take {l : List Pg} {j : Nat} {p : Pg} (h : l[j]? = some p) (k : Int) : cntK (l.take (j + 1)) k = cntK (l.take j) k + if p.kind = k then 1 else 0 := by
  unfold cntK
  rw [List.take_add_one, h, List.filter_append, List.length_append]
  congr 1
  by_cases hk : p.kind = k <;> simp [hk]
theorem cntK_le (l : List Pg) (k : Int) : cntK l k ≤ l.length := List.length_filter_le _ _
theorem idx_ps {l : List Pg} {j : Nat} {p : Pg} (h : l[j]? = some p) (σ : Store) : idxAV σ 5 (encPs l) (.int .i64 j) = some (.rp (encP p)) := by simp [encPs, idxAV, h]
theorem idx_fs {l : List Fg} {j : Nat} {p : Fg} (h : l[j]? = some p) (σ : Store) : idxAV σ 7 (encFs l) (.int .i64 j) = some (.rp (encF p)) := by simp [encFs, idxAV, h]
theorem len_ps (l : List Pg) : lenV false (encPs l) = some (.int .i64 l.length) := by simp [encPs, lenV]
theorem len_fs (l : List Fg) : lenV false (encFs l) = some (.int .i64 l.length) := by simp [encFs, lenV]
theorem ld_fs (l : List Fg) (σ : Store) : loadV σ false 1 (.rp (encFs l)) = some (encFs l) := rfl
theorem encFs_c (l : List Fg) : (encFs l).cells = [encFs l] := rfl
theorem encFs_s (l : List Fg) : (encFs l).stays = true := rfl
theorem rkinds_c (l : List Pg) (hl : l.length ≤ 60) (k : Int) : PFun Tryz.prog 18 [encPs l, vI k] (vI (cntK l k)) := fun σ => by
  refine Contract.of_runs Tryz.func18 e18 k18 (by simp [c18]) ?_
  refine Runs.mix 7 ?_
  (refine Runs.of_step Orc.nothing 300 ?_; simp -implicitDefEqProofs only [BB,seval,← decide_not,okind,vpre,vpure,intBin,intPre,strBin,strPre,popTo,argSlots,fldV,fldAV,subCells,idxVV,idxAAV,idxSV,sliceV,sliceSV,boundV,szIs,storeOp,storeS,setRowV,eff,extV,buildV,splice,eqSV,fitsL,eqCells,eqCell,minmaxV,capV,binBV,nilCheckV,bytesV,V.cells,V.stays,Orc.nothing,c18])
  refine Runs.loop (fun m st => ∃ j : Nat, j ≤ l.length ∧ m = l.length - j ∧ st.s 0 = encPs l ∧ st.s 1 = vI k ∧ st.s 5 = vI (cntK (l.take j) k) ∧ st.s 6 = vI j ∧ st.σ = σ) l.length ⟨0, by omega, rfl, rfl, rfl, rfl, rfl, rfl⟩ ?_
  rintro m ⟨s', σ'⟩ ⟨j, hj, rfl, h0, h1, h5, h6, hs⟩
  simp only at h0 h1 h5 h6 hs
  subst hs
  refine Runs.mix 23 ?_
  by_cases hlt : j < l.length
  · obtain ⟨p, hp⟩ : ∃ p, l[j]? = some p := ⟨l[j], by simp [hlt]⟩
    have hi := idx_ps hp
    have hc : ((j : Int) < l.length) = True := by simp; omega
    have hcl := cntK_le (l.take j) k
    have hn := len_ps l
    have htk := cntK_take hp k
    simp only [List.length_take] at hcl
    by_cases hk : p.kind = k
    · have hk' : (p.kind = k) = True := by simp [hk]
      rw [if_pos hk] at htk
      (refine Runs.of_step Orc.nothing 300 ?_; simp -implicitDefEqProofs only [BB,seval,← decide_not,okind,vpre,vpure,intBin,intPre,strBin,strPre,popTo,argSlots,fldV,fldAV,subCells,idxVV,idxAAV,idxSV,sliceV,sliceSV,boundV,szIs,storeOp,storeS,setRowV,eff,extV,buildV,splice,eqSV,fitsL,eqCells,eqCell,minmaxV,capV,binBV,nilCheckV,bytesV,V.cells,V.stays,Orc.nothing,h0,h1,h5,h6,hi,hc,hn,encP,hk'])
      exact ⟨inR_i64 (by omega) (by omega), inR_i64 (by omega) (by omega), l.length - (j + 1), by omega, j + 1, by omega, rfl, by simp [vI, htk], by simp [vI]⟩
    · have hk' : (p.kind = k) = False := by simp [hk]
      rw [if_neg hk] at htk
      (refine Runs.of_step Orc.nothing 300 ?_; simp -implicitDefEqProofs only [BB,seval,← decide_not,okind,vpre,vpure,intBin,intPre,strBin,strPre,popTo,argSlots,fldV,fldAV,subCells,idxVV,idxAAV,idxSV,sliceV,sliceSV,boundV,szIs,storeOp,storeS,setRowV,eff,extV,buildV,splice,eqSV,fitsL,eqCells,eqCell,minmaxV,capV,binBV,nilCheckV,bytesV,V.cells,V.stays,Orc.nothing,h0,h1,h5,h6,hi,hc,hn,encP,hk'])
      exact ⟨inR_i64 (by omega) (by omega), l.length - (j + 1), by omega, j + 1, by omega, rfl, by simp [vI, htk], by simp [vI]⟩
  · have hc : ((j : Int) < l.length) = False := by simp; omega
    have hn := len_ps l
    (refine Runs.of_step Orc.nothing 300 ?_; simp -implicitDefEqProofs only [BB,seval,← decide_not,okind,vpre,vpure,intBin,intPre,strBin,strPre,popTo,argSlots,fldV,fldAV,subCells,idxVV,idxAAV,idxSV,sliceV,sliceSV,boundV,szIs,storeOp,storeS,setRowV,eff,extV,buildV,splice,eqSV,fitsL,eqCells,eqCell,minmaxV,capV,binBV,nilCheckV,bytesV,V.cells,V.stays,Orc.nothing,h0,h1,h5,h6,hc,hn])
    have : l.take j = l := List.take_of_length_le (by omega)
    rw [this]
    exact RetV.same rfl
def Small (l : List Pg) : Prop := l.length ≤ 60 ∧ ∀ p ∈ l, p.hs.length ≤ 60 ∧ p.fs.length ≤ 60 ∧ p.ls.length ≤ 60
theorem flat_le (g : Pg → List Fg) : ∀ {l : List Pg}, (∀ p ∈ l, (g p).length ≤ 60) → (l.flatMap g).length ≤ l.length * 60
  | [], _ => by simp
  | p :: l, h => by
    have h1 := h p (by simp)
    have h2 := flat_le g (l := l) fun q hq => h q (by simp [hq])
    simp only [List.flatMap_cons,List.length_append,List.length_cons]
    omega
theorem ratoms_c (l : List Pg) (hl : Small l) : PFun Tryz.prog 20 [encPs l] (encFs (l.flatMap (·.fs))) := fun σ => by
  refine Contract.of_runs Tryz.func20 e20 k20 (by simp [c20]) ?_
  refine Runs.mix 5 ?_
  (refine Runs.of_step Orc.nothing 300 ?_; simp -implicitDefEqProofs only [BB,seval,← decide_not,okind,vpre,vpure,intBin,intPre,strBin,strPre,popTo,argSlots,fldV,fldAV,subCells,idxVV,idxAAV,idxSV,sliceV,sliceSV,boundV,szIs,storeOp,storeS,setRowV,eff,extV,buildV,splice,eqSV,fitsL,eqCells,eqCell,minmaxV,capV,binBV,nilCheckV,bytesV,V.cells,V.stays,Orc.nothing,c20])
  refine Runs.loop (fun m st => ∃ j : Nat, j ≤ l.length ∧ m = l.length - j ∧ st.s 0 = encPs l ∧ OutV σ st.σ 89 7 (st.s 3) (((l.take j).flatMap (·.fs)).map encF) ∧ st.s 4 = vI j ∧ SubStore σ st.σ) l.length ⟨0, by omega, rfl, rfl, OutV.start, rfl, SubStore.refl σ⟩ ?_
  rintro m ⟨s', σ'⟩ ⟨j, hj, rfl, h0, h3, h4, hs⟩
  simp only at h0 h3 h4 hs
  generalize hv : s' 3 = v at h3
  refine Runs.mix 19 ?_
  have hn := len_ps l
  by_cases hlt : j < l.length
  · obtain ⟨p, hp⟩ : ∃ p, l[j]? = some p := ⟨l[j], by simp [hlt]⟩
    have hi := idx_ps hp
    have hc : ((j : Int) < l.length) = True := by simp; omega
    have hpm := hl.2 p (List.mem_of_getElem? hp)
    have hfl := flat_le (fun p => p.fs) (l := l.take j) (fun q hq => (hl.2 q (List.mem_of_mem_take hq)).2.1)
    have hjl := hl.1
    simp only [List.length_take] at hfl
    have hb : ((((l.take j).flatMap (·.fs)).map encF).length + (p.fs.map encF).length) * 57 ≤ 140737488355328 := by
      have := hpm.2.1
      simp only [List.length_map]
      have h60 : min j l.length ≤ 60 := by omega
      have : min j l.length * 60 ≤ 3600 := by omega
      omega
    obtain ⟨idA, hd, hdel⟩ := h3.dst (SubStore.refl _)
    have hsrc : ∀ σ, srcRows σ 7 (encFs p.fs) = some (p.fs.map encF) := fun σ => by simp [encFs, srcRows]
    have htk : ((l.take (j + 1)).flatMap (·.fs)).map encF = ((l.take j).flatMap (·.fs)).map encF ++ p.fs.map encF := by
      rw [List.take_add_one, hp]; simp
    rw [List.length_map, List.length_map] at hb
    (refine Runs.of_step Orc.nothing 300 ?_; simp -implicitDefEqProofs only [BB,seval,← decide_not,okind,vpre,vpure,intBin,intPre,strBin,strPre,popTo,argSlots,fldV,fldAV,subCells,idxVV,idxAAV,idxSV,sliceV,sliceSV,boundV,szIs,storeOp,storeS,setRowV,eff,extV,buildV,splice,eqSV,fitsL,eqCells,eqCell,minmaxV,capV,binBV,nilCheckV,bytesV,V.cells,V.stays,Orc.nothing,h0,hv,h4,hi,hc,hn,encP,ld_fs,hd,hsrc,hb,List.length_map])
    refine effR_put fun id2 σ2 s2 a2 f2 => ?_
    simp -implicitDefEqProofs only [BB,seval,← decide_not,okind,vpre,vpure,intBin,intPre,strBin,strPre,popTo,argSlots,fldV,fldAV,subCells,idxVV,idxAAV,idxSV,sliceV,sliceSV,boundV,szIs,storeOp,storeS,setRowV,eff,extV,buildV,splice,eqSV,fitsL,eqCells,eqCell,minmaxV,capV,binBV,nilCheckV,bytesV,V.cells,V.stays,h0,hv,h4,hi,hc,hn]
    exact ⟨inR_i64 (by omega) (by omega), l.length - (j + 1), by omega, j + 1, by omega, rfl, by rw [htk]; exact OutV.new (by simp) a2 (hs.none f2), by simp [vI], (hdel σ (SubStore.refl _) σ' hs).trans s2⟩
  · have hc : ((j : Int) < l.length) = False := by simp; omega
    (refine Runs.of_step Orc.nothing 300 ?_; simp -implicitDefEqProofs only [BB,seval,← decide_not,okind,vpre,vpure,intBin,intPre,strBin,strPre,popTo,argSlots,fldV,fldAV,subCells,idxVV,idxAAV,idxSV,sliceV,sliceSV,boundV,szIs,storeOp,storeS,setRowV,eff,extV,buildV,splice,eqSV,fitsL,eqCells,eqCell,minmaxV,capV,binBV,nilCheckV,bytesV,V.cells,V.stays,Orc.nothing,h0,hv,h4,hc,hn])
    have : l.take j = l := List.take_of_length_le (by omega)
    rw [this] at h3
    exact h3.retv hs rfl
theorem rfloats_c (l : List Pg) (hl : Small l) : PFun Tryz.prog 21 [encPs l] (encFs (l.flatMap (·.ls))) := fun σ => by
  refine Contract.of_runs Tryz.func21 e21 k21 (by simp [c21]) ?_
  refine Runs.mix 5 ?_
  (refine Runs.of_step Orc.nothing 300 ?_; simp -implicitDefEqProofs only [BB,seval,← decide_not,okind,vpre,vpure,intBin,intPre,strBin,strPre,popTo,argSlots,fldV,fldAV,subCells,idxVV,idxAAV,idxSV,sliceV,sliceSV,boundV,szIs,storeOp,storeS,setRowV,eff,extV,buildV,splice,eqSV,fitsL,eqCells,eqCell,minmaxV,capV,binBV,nilCheckV,bytesV,V.cells,V.stays,Orc.nothing,c21])
  refine Runs.loop (fun m st => ∃ j : Nat, j ≤ l.length ∧ m = l.length - j ∧ st.s 0 = encPs l ∧ OutV σ st.σ 89 7 (st.s 3) (((l.take j).flatMap (·.ls)).map encF) ∧ st.s 4 = vI j ∧ SubStore σ st.σ) l.length ⟨0, by omega, rfl, rfl, OutV.start, rfl, SubStore.refl σ⟩ ?_
  rintro m ⟨s', σ'⟩ ⟨j, hj, rfl, h0, h3, h4, hs⟩
  simp only at h0 h3 h4 hs
  generalize hv : s' 3 = v at h3
  refine Runs.mix 19 ?_
  have hn := len_ps l
  by_cases hlt : j < l.length
  · obtain ⟨p, hp⟩ : ∃ p, l[j]? = some p := ⟨l[j], by simp [hlt]⟩
    have hi := idx_ps hp
    have hc : ((j : Int) < l.length) = True := by simp; omega
    have hpm := hl.2 p (List.mem_of_getElem? hp)
    have hfl := flat_le (fun p => p.ls) (l := l.take j) (fun q hq => (hl.2 q (List.mem_of_mem_take hq)).2.2)
    have hjl := hl.1
    simp only [List.length_take] at hfl
    have hb : ((((l.take j).flatMap (·.ls)).map encF).length + (p.ls.map encF).length) * 57 ≤ 140737488355328 := by
      have := hpm.2.2
      simp only [List.length_map]
      have h60 : min j l.length ≤ 60 := by omega
      have : min j l.length * 60 ≤ 3600 := by omega
      omega
    obtain ⟨idA, hd, hdel⟩ := h3.dst (SubStore.refl _)
    have hsrc : ∀ σ, srcRows σ 7 (encFs p.ls) = some (p.ls.map encF) := fun σ => by simp [encFs, srcRows]
    have htk : ((l.take (j + 1)).flatMap (·.ls)).map encF = ((l.take j).flatMap (·.ls)).map encF ++ p.ls.map encF := by
      rw [List.take_add_one, hp]; simp
    rw [List.length_map, List.length_map] at hb
    (refine Runs.of_step Orc.nothing 300 ?_; simp -implicitDefEqProofs only [BB,seval,← decide_not,okind,vpre,vpure,intBin,intPre,strBin,strPre,popTo,argSlots,fldV,fldAV,subCells,idxVV,idxAAV,idxSV,sliceV,sliceSV,boundV,szIs,storeOp,storeS,setRowV,eff,extV,buildV,splice,eqSV,fitsL,eqCells,eqCell,minmaxV,capV,binBV,nilCheckV,bytesV,V.cells,V.stays,Orc.nothing,h0,hv,h4,hi,hc,hn,encP,ld_fs,hd,hsrc,hb,List.length_map])
    refine effR_put fun id2 σ2 s2 a2 f2 => ?_
    simp -implicitDefEqProofs only [BB,seval,← decide_not,okind,vpre,vpure,intBin,intPre,strBin,strPre,popTo,argSlots,fldV,fldAV,subCells,idxVV,idxAAV,idxSV,sliceV,sliceSV,boundV,szIs,storeOp,storeS,setRowV,eff,extV,buildV,splice,eqSV,fitsL,eqCells,eqCell,minmaxV,capV,binBV,nilCheckV,bytesV,V.cells,V.stays,h0,hv,h4,hi,hc,hn]
    exact ⟨inR_i64 (by omega) (by omega), l.length - (j + 1), by omega, j + 1, by omega, rfl, by rw [htk]; exact OutV.new (by simp) a2 (hs.none f2), by simp [vI], (hdel σ (SubStore.refl _) σ' hs).trans s2⟩
  · have hc : ((j : Int) < l.length) = False := by simp; omega
    (refine Runs.of_step Orc.nothing 300 ?_; simp -implicitDefEqProofs only [BB,seval,← decide_not,okind,vpre,vpure,intBin,intPre,strBin,strPre,popTo,argSlots,fldV,fldAV,subCells,idxVV,idxAAV,idxSV,sliceV,sliceSV,boundV,szIs,storeOp,storeS,setRowV,eff,extV,buildV,splice,eqSV,fitsL,eqCells,eqCell,minmaxV,capV,binBV,nilCheckV,bytesV,V.cells,V.stays,Orc.nothing,h0,hv,h4,hc,hn])
    have : l.take j = l := List.take_of_length_le (by omega)
    rw [this] at h3
    exact h3.retv hs rfl
theorem frags_c (l : List Fg) (hl : l.length ≤ 1000000) : PFun Tryz.prog 19 [encFs l, encFs l] (.bool true) := fun σ => by
  refine Contract.of_runs Tryz.func19 e19 k19 (by simp [c19]) ?_
  have hn := len_fs l
  refine Runs.mix 11 ?_
  (refine Runs.of_step Orc.nothing 300 ?_; simp -implicitDefEqProofs only [BB,seval,← decide_not,okind,vpre,vpure,intBin,intPre,strBin,strPre,popTo,argSlots,fldV,fldAV,subCells,idxVV,idxAAV,idxSV,sliceV,sliceSV,boundV,szIs,storeOp,storeS,setRowV,eff,extV,buildV,splice,eqSV,fitsL,eqCells,eqCell,minmaxV,capV,binBV,nilCheckV,bytesV,V.cells,V.stays,Orc.nothing,c19,hn])
  refine And.intro (fun h => absurd rfl h) (fun _ => ?_)
  refine Runs.loop (fun m st => ∃ j : Nat, j ≤ l.length ∧ m = l.length - j ∧ st.s 0 = encFs l ∧ st.s 1 = encFs l ∧ st.s 5 = vI j ∧ st.σ = σ) l.length ⟨0, by omega, rfl, rfl, rfl, rfl, rfl⟩ ?_
  rintro m ⟨s', σ'⟩ ⟨j, hj, rfl, h0, h1, h5, hs⟩
  simp only at h0 h1 h5 hs
  subst hs
  refine Runs.mix 26 ?_
  by_cases hlt : j < l.length
  · obtain ⟨p, hp⟩ : ∃ p, l[j]? = some p := ⟨l[j], by simp [hlt]⟩
    have hi := idx_fs hp
    have hc : ((j : Int) < l.length) = True := by simp; omega
    have hld : ∀ σ, loadV σ true 7 (.rp (encF p)) = some (encF p) := fun σ => rfl
    have he : eqSV true [0, 0, 0, 0, 0, 0, 0] (encF p) (encF p) = some (.bool false) := by simp [eqSV, encF, fitsL, eqCells, eqCell, vI]
    (refine Runs.of_step Orc.nothing 300 ?_; simp -implicitDefEqProofs only [BB,seval,← decide_not,okind,vpre,vpure,intBin,intPre,strBin,strPre,popTo,argSlots,fldV,fldAV,subCells,idxVV,idxAAV,idxSV,sliceV,sliceSV,boundV,szIs,storeOp,storeS,setRowV,eff,extV,buildV,splice,fitsL,eqCells,eqCell,minmaxV,capV,binBV,nilCheckV,bytesV,V.cells,V.stays,Orc.nothing,h0,h1,h5,hi,hc,hn,hld,he])
    exact ⟨inR_i64 (by omega) (by omega), l.length - (j + 1), by omega, j + 1, by omega, rfl, by simp [vI]⟩
  · have hc : ((j : Int) < l.length) = False := by simp; omega
    (refine Runs.of_step Orc.nothing 300 ?_; simp -implicitDefEqProofs only [BB,seval,← decide_not,okind,vpre,vpure,intBin,intPre,strBin,strPre,popTo,argSlots,fldV,fldAV,subCells,idxVV,idxAAV,idxSV,sliceV,sliceSV,boundV,szIs,storeOp,storeS,setRowV,eff,extV,buildV,splice,eqSV,fitsL,eqCells,eqCell,minmaxV,capV,binBV,nilCheckV,bytesV,V.cells,V.stays,Orc.nothing,h0,h1,h5,hc,hn])
    exact RetV.same rfl
theorem one_c (p : Pg) (h : p.hs.length ≤ 60 ∧ p.fs.length ≤ 60 ∧ p.ls.length ≤ 60) : PFun Tryz.prog 11 [encP p, encP p] (.bool true) := fun σ => by
  refine Contract.of_runs Tryz.func11 e11 k11 (by simp [c11]) ?_
  have hs := SubStore.refl σ
  refine Runs.mix 38 ?_
  (refine Runs.of_step Orc.nothing 300 ?_; simp -implicitDefEqProofs only [BB,seval,← decide_not,okind,vpre,vpure,intBin,intPre,strBin,strPre,popTo,argSlots,fldV,fldAV,subCells,idxVV,idxAAV,idxSV,sliceV,sliceSV,boundV,szIs,storeOp,storeS,setRowV,eff,extV,buildV,splice,eqSV,fitsL,eqCells,eqCell,minmaxV,capV,binBV,nilCheckV,bytesV,Orc.nothing,c11,encP,encFs_c,encFs_s,V.cells_agg,V.cells_int,V.cells_nils,V.cells_own,V.cells_sl,V.cells_str,V.cells_bool,V.cells_fn,V.cells_ptr,V.cells_rp,V.stays_agg,V.stays_int,V.stays_nils,V.stays_own,V.stays_sl,V.stays_str,V.stays_bool,V.stays_fn,V.stays_ptr,V.stays_rp])
  refine effR_new fun i2 σ2 s2 a2 f2 => ?_
  have z2 := hs.none f2
  replace hs := hs.trans s2
  simp -implicitDefEqProofs only [BB,seval,← decide_not,okind,vpre,vpure,intBin,intPre,strBin,strPre,popTo,argSlots,fldV,fldAV,subCells,idxVV,idxAAV,idxSV,sliceV,sliceSV,boundV,szIs,storeOp,storeS,setRowV,eff,extV,buildV,splice,eqSV,fitsL,eqCells,eqCell,minmaxV,capV,binBV,nilCheckV,bytesV,a2,encFs_c,encFs_s,V.cells_agg,V.cells_int,V.cells_nils,V.cells_own,V.cells_sl,V.cells_str,V.cells_bool,V.cells_fn,V.cells_ptr,V.cells_rp,V.stays_agg,V.stays_int,V.stays_nils,V.stays_own,V.stays_sl,V.stays_str,V.stays_bool,V.stays_fn,V.stays_ptr,V.stays_rp]
  refine effR_new fun i3 σ3 s3 a3 f3 => ?_
  have n23 := ne_new a2 f3
  replace a2 := s3 _ _ a2
  have z3 := hs.none f3
  replace hs := hs.trans s3
  simp -implicitDefEqProofs only [BB,seval,← decide_not,okind,vpre,vpure,intBin,intPre,strBin,strPre,popTo,argSlots,fldV,fldAV,subCells,idxVV,idxAAV,idxSV,sliceV,sliceSV,boundV,szIs,storeOp,storeS,setRowV,eff,extV,buildV,splice,eqSV,fitsL,eqCells,eqCell,minmaxV,capV,binBV,nilCheckV,bytesV,a3,a2,encFs_c,encFs_s,V.cells_agg,V.cells_int,V.cells_nils,V.cells_own,V.cells_sl,V.cells_str,V.cells_bool,V.cells_fn,V.cells_ptr,V.cells_rp,V.stays_agg,V.stays_int,V.stays_nils,V.stays_own,V.stays_sl,V.stays_str,V.stays_bool,V.stays_fn,V.stays_ptr,V.stays_rp]
  refine Runs.pcall rfl rfl rfl (frags_c p.hs (by omega) _) ?_
  (refine Runs.of_step Orc.nothing 300 ?_; simp -implicitDefEqProofs only [BB,seval,← decide_not,okind,vpre,vpure,intBin,intPre,strBin,strPre,popTo,argSlots,fldV,fldAV,subCells,idxVV,idxAAV,idxSV,sliceV,sliceSV,boundV,szIs,storeOp,storeS,setRowV,eff,extV,buildV,splice,eqSV,fitsL,eqCells,eqCell,minmaxV,capV,binBV,nilCheckV,bytesV,Orc.nothing,a3,a2,encFs_c,encFs_s,V.cells_agg,V.cells_int,V.cells_nils,V.cells_own,V.cells_sl,V.cells_str,V.cells_bool,V.cells_fn,V.cells_ptr,V.cells_rp,V.stays_agg,V.stays_int,V.stays_nils,V.stays_own,V.stays_sl,V.stays_str,V.stays_bool,V.stays_fn,V.stays_ptr,V.stays_rp])
  refine Runs.pcall rfl rfl rfl (frags_c p.fs (by omega) _) ?_
  (refine Runs.of_step Orc.nothing 300 ?_; simp -implicitDefEqProofs only [BB,seval,← decide_not,okind,vpre,vpure,intBin,intPre,strBin,strPre,popTo,argSlots,fldV,fldAV,subCells,idxVV,idxAAV,idxSV,sliceV,sliceSV,boundV,szIs,storeOp,storeS,setRowV,eff,extV,buildV,splice,eqSV,fitsL,eqCells,eqCell,minmaxV,capV,binBV,nilCheckV,bytesV,Orc.nothing,a3,a2,encFs_c,encFs_s,V.cells_agg,V.cells_int,V.cells_nils,V.cells_own,V.cells_sl,V.cells_str,V.cells_bool,V.cells_fn,V.cells_ptr,V.cells_rp,V.stays_agg,V.stays_int,V.stays_nils,V.stays_own,V.stays_sl,V.stays_str,V.stays_bool,V.stays_fn,V.stays_ptr,V.stays_rp])
  refine Runs.pcall rfl rfl rfl (frags_c p.ls (by omega) _) ?_
  (refine Runs.of_step Orc.nothing 300 ?_; simp -implicitDefEqProofs only [BB,seval,← decide_not,okind,vpre,vpure,intBin,intPre,strBin,strPre,popTo,argSlots,fldV,fldAV,subCells,idxVV,idxAAV,idxSV,sliceV,sliceSV,boundV,szIs,storeOp,storeS,setRowV,eff,extV,buildV,splice,eqSV,fitsL,eqCells,eqCell,minmaxV,capV,binBV,nilCheckV,bytesV,Orc.nothing,a3,a2,encFs_c,encFs_s,V.cells_agg,V.cells_int,V.cells_nils,V.cells_own,V.cells_sl,V.cells_str,V.cells_bool,V.cells_fn,V.cells_ptr,V.cells_rp,V.stays_agg,V.stays_int,V.stays_nils,V.stays_own,V.stays_sl,V.stays_str,V.stays_bool,V.stays_fn,V.stays_ptr,V.stays_rp])
  exact RetV.pure hs rfl
end Go.Vc
namespace Go.Vc
open Go.Proofs
section
variable {P : Program} {n : Nat} {st : St} {Q : St → Prop} {k : List It}
theorem Go.pcallF {i : VIns} {l : List VIns} {fx : VX} {xs : List VX} {f : FuncId} {caps : List V} {v : V} (hw : wantV st.s i.g = some true) (ho : i.op = .call fx xs)
    (hf : fx.ev st.s = .fn f caps) (hc : PFun P f (xs.map (·.ev st.s) ++ caps) v) (h : Go P n (.d l k) ⟨putO st.s i.dst v, st.σ⟩ Q) : Go P n (.d (i :: l) k) st Q := by
  refine T_true hw ?_
  rw [ho]
  exact ⟨f, caps, v, hf, fun σ1 _ => hc σ1, h⟩
end
theorem ld_ps (p : Pg) (σ : Store) : loadV σ true 5 (.rp (encP p)) = some (encP p) := rfl
theorem pgs_same (l : List Pg) (hl : Small l) : PFun Tryz.prog 22 [encPs l, encPs l] (.bool true) := fun σ => by
  refine Contract.of_runs Tryz.func22 e22 k22 (by simp [c22]) ?_
  have hn := len_ps l
  have hjl := hl.1
  refine Runs.mix 11 ?_
  (refine Runs.of_step Orc.nothing 300 ?_; simp -implicitDefEqProofs only [BB,seval,← decide_not,okind,vpre,vpure,intBin,intPre,strBin,strPre,popTo,argSlots,fldV,fldAV,subCells,idxVV,idxAAV,idxSV,sliceV,sliceSV,boundV,szIs,storeOp,storeS,setRowV,eff,extV,buildV,splice,eqSV,fitsL,eqCells,eqCell,minmaxV,capV,binBV,nilCheckV,bytesV,V.cells,V.stays,Orc.nothing,c22,hn])
  refine And.intro (fun h => absurd rfl h) (fun _ => ?_)
  refine Runs.loop (fun m st => ∃ j : Nat, j ≤ l.length ∧ m = l.length - j ∧ st.s 0 = encPs l ∧ st.s 1 = encPs l ∧ st.s 5 = vI j ∧ st.σ = σ) l.length ⟨0, by omega, rfl, rfl, rfl, rfl, rfl⟩ ?_
  rintro m ⟨s', σ'⟩ ⟨j, hj, rfl, h0, h1, h5, hs⟩
  simp only at h0 h1 h5 hs
  subst hs
  refine Runs.mix 27 ?_
  by_cases hlt : j < l.length
  · obtain ⟨p, hp⟩ : ∃ p, l[j]? = some p := ⟨l[j], by simp [hlt]⟩
    have hi := idx_ps hp
    have hc : ((j : Int) < l.length) = True := by simp; omega
    have hld := ld_ps p
    (refine Runs.of_step Orc.nothing 300 ?_; simp -implicitDefEqProofs only [BB,seval,← decide_not,okind,vpre,vpure,intBin,intPre,strBin,strPre,popTo,argSlots,fldV,fldAV,subCells,idxVV,idxAAV,idxSV,sliceV,sliceSV,boundV,szIs,storeOp,storeS,setRowV,eff,extV,buildV,splice,eqSV,fitsL,eqCells,eqCell,minmaxV,capV,binBV,nilCheckV,bytesV,V.cells,V.stays,Orc.nothing,h0,h1,h5,hi,hc,hn,hld])
    refine Go.pcallF rfl rfl rfl (one_c p (hl.2 p (List.mem_of_getElem? hp))) ?_
    (refine Go.of_step Orc.nothing 300 _ _ ?_; simp -implicitDefEqProofs only [BB,seval,← decide_not,okind,vpre,vpure,intBin,intPre,strBin,strPre,popTo,argSlots,fldV,fldAV,subCells,idxVV,idxAAV,idxSV,sliceV,sliceSV,boundV,szIs,storeOp,storeS,setRowV,eff,extV,buildV,splice,eqSV,fitsL,eqCells,eqCell,minmaxV,capV,binBV,nilCheckV,bytesV,V.cells,V.stays,Orc.nothing,h0,h1,h5,hi,hc,hn,hld])
    exact ⟨inR_i64 (by omega) (by omega), l.length - (j + 1), by omega, j + 1, by omega, rfl, by simp [vI]⟩
  · have hc : ((j : Int) < l.length) = False := by simp; omega
    (refine Runs.of_step Orc.nothing 300 ?_; simp -implicitDefEqProofs only [BB,seval,← decide_not,okind,vpre,vpure,intBin,intPre,strBin,strPre,popTo,argSlots,fldV,fldAV,subCells,idxVV,idxAAV,idxSV,sliceV,sliceSV,boundV,szIs,storeOp,storeS,setRowV,eff,extV,buildV,splice,eqSV,fitsL,eqCells,eqCell,minmaxV,capV,binBV,nilCheckV,bytesV,V.cells,V.stays,Orc.nothing,h0,h1,h5,hc,hn])
    exact RetV.same rfl
theorem kinds_c (l : List Pg) (hl : Small l) : PFun Tryz.prog 15 [encPs l] (.tup [vI (cntK l 1), vI (cntK l 2), vI (cntK l 3)]) := fun σ => by
  refine Contract.of_runs Tryz.func15 e15 k15 (by simp [c15]) ?_
  have hn := len_ps l
  have hjl := hl.1
  have hs := SubStore.refl σ
  refine Runs.mix 11 ?_
  (refine Runs.of_step Orc.nothing 300 ?_; simp -implicitDefEqProofs only [BB,seval,← decide_not,okind,vpre,vpure,intBin,intPre,strBin,strPre,popTo,argSlots,fldV,fldAV,subCells,idxVV,idxAAV,idxSV,sliceV,sliceSV,boundV,szIs,storeOp,storeS,setRowV,eff,extV,buildV,splice,eqSV,fitsL,eqCells,eqCell,minmaxV,capV,binBV,nilCheckV,bytesV,V.cells,V.stays,Orc.nothing,c15,hn])
  refine effR_new fun i5 σ5 s5 a5 f5 => ?_
  have z5 := hs.none f5
  replace hs := hs.trans s5
  simp -implicitDefEqProofs only [BB,seval,← decide_not,okind,vpre,vpure,intBin,intPre,strBin,strPre,popTo,argSlots,fldV,fldAV,subCells,idxVV,idxAAV,idxSV,sliceV,sliceSV,boundV,szIs,storeOp,storeS,setRowV,eff,extV,buildV,splice,eqSV,fitsL,eqCells,eqCell,minmaxV,capV,binBV,nilCheckV,bytesV,V.cells,V.stays,a5,hn]
  refine Runs.loop (fun m st => ∃ j : Nat, j ≤ l.length ∧ m = l.length - j ∧ st.s 5 = .ptr i5 0 0 ∧ st.s 8 = encPs l ∧ st.s 9 = vI l.length ∧ st.s 10 = vI j ∧ SubStore σ st.σ ∧
    st.σ i5 = some ⟨90, 4, [.agg [vI (cntK (l.take j) 0), vI (cntK (l.take j) 1), vI (cntK (l.take j) 2), vI (cntK (l.take j) 3)]]⟩) l.length ⟨0, by omega, rfl, rfl, rfl, rfl, rfl, hs, a5⟩ ?_
  clear a5 hs s5
  rintro m ⟨s', σ'⟩ ⟨j, hj, rfl, h5, h8, h9, h10, hs, a5⟩
  simp only at h5 h8 h9 h10 hs a5
  refine Runs.mix 35 ?_
  by_cases hlt : j < l.length
  · obtain ⟨p, hp⟩ : ∃ p, l[j]? = some p := ⟨l[j], by simp [hlt]⟩
    have hi := idx_ps hp
    have hc : ((j : Int) < l.length) = True := by simp; omega
    have hld := ld_ps p
    have ht := fun k => cntK_take hp k
    have hcl := fun k => cntK_le (l.take j) k
    simp only [List.length_take] at hcl
    have c0 := hcl 0
    have c1 := hcl 1
    have c2 := hcl 2
    have c3 := hcl 3
    have t0 := ht 0
    have t1 := ht 1
    have t2 := ht 2
    have t3 := ht 3
    generalize cntK (l.take j) 0 = n0 at *
    generalize cntK (l.take j) 1 = n1 at *
    generalize cntK (l.take j) 2 = n2 at *
    generalize cntK (l.take j) 3 = n3 at *
    have hP : encP p = .agg [vI p.no, vI p.kind, encFs p.hs, encFs p.fs, encFs p.ls] := rfl
    (refine Runs.of_step Orc.nothing 300 ?_; simp -implicitDefEqProofs only [BB,seval,← decide_not,okind,vpre,vpure,intBin,intPre,strBin,strPre,popTo,argSlots,fldV,fldAV,subCells,idxVV,idxAAV,idxSV,sliceV,sliceSV,boundV,szIs,storeOp,storeS,setRowV,eff,extV,buildV,splice,eqSV,fitsL,eqCells,eqCell,minmaxV,capV,binBV,nilCheckV,bytesV,V.cells,V.stays,Orc.nothing,h5,h8,h9,h10,a5,hi,hc,hn,hld])
    refine effR_new fun i7 σ7 s7 a7 f7 => ?_
    have n57 := ne_new a5 f7
    replace a5 := s7 _ _ a5
    have z7 := hs.none f7
    replace hs := hs.trans s7
    simp -implicitDefEqProofs only [BB,seval,← decide_not,okind,vpre,vpure,intBin,intPre,strBin,strPre,popTo,argSlots,fldV,fldAV,subCells,idxVV,idxAAV,idxSV,sliceV,sliceSV,boundV,szIs,storeOp,storeS,setRowV,eff,extV,buildV,splice,eqSV,fitsL,eqCells,eqCell,minmaxV,capV,binBV,nilCheckV,bytesV,a7,a5,h5,h8,h9,h10,hP,encFs_c,encFs_s,V.cells_agg,V.cells_int,V.cells_nils,V.cells_own,V.cells_sl,V.cells_str,V.cells_bool,V.cells_fn,V.cells_ptr,V.cells_rp,V.stays_agg,V.stays_int,V.stays_nils,V.stays_own,V.stays_sl,V.stays_str,V.stays_bool,V.stays_fn,V.stays_ptr,V.stays_rp]
    generalize hq7 : upd _ i7 _ = τ7
    replace a7 := (congrFun hq7 i7).symm.trans upd_same
    replace a5 := ((congrFun hq7 i5).symm.trans (upd_ne n57)).trans a5
    replace hs := Eq.subst (motive := SubStore _) hq7 (hs.updK z7)
    clear hq7
    have hs7 : SubStore σ τ7 := hs
    by_cases hk0 : p.kind ≥ 0
    · have q0 : (p.kind ≥ 0) = True := eq_true hk0
      by_cases hk4 : p.kind < 4
      · have q4 : (p.kind < 4) = True := eq_true hk4
        have hk : p.kind = 0 ∨ p.kind = 1 ∨ p.kind = 2 ∨ p.kind = 3 := by omega
        rcases hk with hk | hk | hk | hk
        all_goals
          simp -implicitDefEqProofs only [BB,seval,← decide_not,okind,vpre,vpure,intBin,intPre,strBin,strPre,popTo,argSlots,fldV,fldAV,subCells,idxVV,idxAAV,idxSV,sliceV,sliceSV,boundV,szIs,storeOp,storeS,setRowV,eff,extV,buildV,splice,eqSV,fitsL,eqCells,eqCell,minmaxV,capV,binBV,nilCheckV,bytesV,a7,a5,h5,h8,h9,h10,q0,q4,hk,encFs_c,encFs_s,V.cells_agg,V.cells_int,V.cells_nils,V.cells_own,V.cells_sl,V.cells_str,V.cells_bool,V.cells_fn,V.cells_ptr,V.cells_rp,V.stays_agg,V.stays_int,V.stays_nils,V.stays_own,V.stays_sl,V.stays_str,V.stays_bool,V.stays_fn,V.stays_ptr,V.stays_rp]
          refine ⟨⟨⟨inR_i64 (by omega) (by omega), inR_i64 (by omega) (by omega), l.length - (j + 1), by omega, j + 1, by omega, rfl, by simp [vI], hs.updK z5, ?_⟩, fun h => absurd trivial h⟩, fun h => absurd trivial h⟩
          simp [t0, t1, t2, t3, hk, vI]
      · have q4 : (p.kind < 4) = False := eq_false hk4
        simp -implicitDefEqProofs only [BB,seval,← decide_not,okind,vpre,vpure,intBin,intPre,strBin,strPre,popTo,argSlots,fldV,fldAV,subCells,idxVV,idxAAV,idxSV,sliceV,sliceSV,boundV,szIs,storeOp,storeS,setRowV,eff,extV,buildV,splice,eqSV,fitsL,eqCells,eqCell,minmaxV,capV,binBV,nilCheckV,bytesV,a7,a5,h5,h8,h9,h10,q0,q4,encFs_c,encFs_s,V.cells_agg,V.cells_int,V.cells_nils,V.cells_own,V.cells_sl,V.cells_str,V.cells_bool,V.cells_fn,V.cells_ptr,V.cells_rp,V.stays_agg,V.stays_int,V.stays_nils,V.stays_own,V.stays_sl,V.stays_str,V.stays_bool,V.stays_fn,V.stays_ptr,V.stays_rp]
        refine ⟨fun _ => ?_, fun h => absurd trivial h⟩
        refine ⟨inR_i64 (by omega) (by omega), l.length - (j + 1), by omega, j + 1, by omega, rfl, by simp [vI], hs, ?_⟩
        have e0 : p.kind ≠ 0 := by omega
        have e1 : p.kind ≠ 1 := by omega
        have e2 : p.kind ≠ 2 := by omega
        have e3 : p.kind ≠ 3 := by omega
        simp [t0, t1, t2, t3, e0, e1, e2, e3, vI]
    · have q0 : (p.kind ≥ 0) = False := eq_false hk0
      simp -implicitDefEqProofs only [BB,seval,← decide_not,okind,vpre,vpure,intBin,intPre,strBin,strPre,popTo,argSlots,fldV,fldAV,subCells,idxVV,idxAAV,idxSV,sliceV,sliceSV,boundV,szIs,storeOp,storeS,setRowV,eff,extV,buildV,splice,eqSV,fitsL,eqCells,eqCell,minmaxV,capV,binBV,nilCheckV,bytesV,a7,a5,h5,h8,h9,h10,q0,encFs_c,encFs_s,V.cells_agg,V.cells_int,V.cells_nils,V.cells_own,V.cells_sl,V.cells_str,V.cells_bool,V.cells_fn,V.cells_ptr,V.cells_rp,V.stays_agg,V.stays_int,V.stays_nils,V.stays_own,V.stays_sl,V.stays_str,V.stays_bool,V.stays_fn,V.stays_ptr,V.stays_rp]
      intro _
      refine ⟨inR_i64 (by omega) (by omega), l.length - (j + 1), by omega, j + 1, by omega, rfl, by simp [vI], hs, ?_⟩
      have e0 : p.kind ≠ 0 := by omega
      have e1 : p.kind ≠ 1 := by omega
      have e2 : p.kind ≠ 2 := by omega
      have e3 : p.kind ≠ 3 := by omega
      simp [t0, t1, t2, t3, e0, e1, e2, e3, vI]
  · have hc : ((j : Int) < l.length) = False := by simp; omega
    (refine Runs.of_step Orc.nothing 300 ?_; simp -implicitDefEqProofs only [BB,seval,← decide_not,okind,vpre,vpure,intBin,intPre,strBin,strPre,popTo,argSlots,fldV,fldAV,subCells,idxVV,idxAAV,idxSV,sliceV,sliceSV,boundV,szIs,storeOp,storeS,setRowV,eff,extV,buildV,splice,eqSV,fitsL,eqCells,eqCell,minmaxV,capV,binBV,nilCheckV,bytesV,V.cells,V.stays,Orc.nothing,h5,h8,h9,h10,a5,hc])
    have : l.take j = l := List.take_of_length_le (by omega)
    rw [this]
    exact RetV.pure hs rfl
end Go.Vc
namespace Go.Vc
open Go.Proofs
theorem dst_new {σ : Store} {id e sz : Nat} (h : σ id = some ⟨e, sz, []⟩) : dstRows σ e sz (.own id 0 0) = some ([], some id) := by
  simp only [dstRows,h]
  rw [if_pos (by simp)]
  simp
theorem src_fs (l : List Fg) (σ : Store) : srcRows σ 7 (encFs l) = some (l.map encF) := by simp [encFs, srcRows]
theorem own_fs (l : List Fg) : (V.sl 7 (((l.map encF).drop 0).take l.length)) = encFs l := by
  rw [List.drop_zero, List.take_of_length_le (by simp)]; rfl
set_option maxHeartbeats 2000000 in
theorem pown_c (l : List Pg) (hl : Small l) : PFun Tryz.prog 14 [encPs l] (encPs l) := fun σ => by
  refine Contract.of_runs Tryz.func14 e14 k14 (by simp [c14]) ?_
  have hn := len_ps l
  have hjl := hl.1
  refine Runs.mix 6 ?_
  (refine Runs.of_step Orc.nothing 300 ?_; simp -implicitDefEqProofs only [BB,seval,← decide_not,okind,vpre,vpure,intBin,intPre,strBin,strPre,popTo,argSlots,fldV,fldAV,subCells,idxVV,idxAAV,idxSV,sliceV,sliceSV,boundV,szIs,storeOp,storeS,setRowV,eff,extV,buildV,splice,eqSV,fitsL,eqCells,eqCell,minmaxV,capV,binBV,nilCheckV,bytesV,V.cells,V.stays,Orc.nothing,c14])
  refine Runs.loop (fun m st => ∃ j : Nat, j ≤ l.length ∧ m = l.length - j ∧ st.s 0 = encPs l ∧ OutV σ st.σ 39 5 (st.s 3) ((l.take j).map encP) ∧ st.s 4 = vI j ∧ SubStore σ st.σ) l.length ⟨0, by omega, rfl, rfl, OutV.start, rfl, SubStore.refl σ⟩ ?_
  rintro m ⟨s', σ'⟩ ⟨j, hj, rfl, h0, h3, h4, hσ⟩
  simp only at h0 h3 h4 hσ
  generalize hv : s' 3 = v at h3
  refine Runs.mix 45 ?_
  by_cases hlt : j < l.length
  · obtain ⟨p, hp⟩ : ∃ p, l[j]? = some p := ⟨l[j], by simp [hlt]⟩
    have hi := idx_ps hp
    have hc : ((j : Int) < l.length) = True := by simp; omega
    have hld := ld_ps p
    have hpm := hl.2 p (List.mem_of_getElem? hp)
    have hP : encP p = .agg [vI p.no, vI p.kind, encFs p.hs, encFs p.fs, encFs p.ls] := rfl
    have hs := SubStore.refl σ'
    have hb1 : p.hs.length * 57 ≤ 140737488355328 := by omega
    have hb2 : p.fs.length * 57 ≤ 140737488355328 := by omega
    have hb3 : p.ls.length * 57 ≤ 140737488355328 := by omega
    (refine Runs.of_step Orc.nothing 30 ?_; simp -implicitDefEqProofs only [BB,seval,← decide_not,okind,vpre,vpure,intBin,intPre,strBin,strPre,popTo,argSlots,fldV,fldAV,subCells,idxVV,idxAAV,idxSV,sliceV,sliceSV,boundV,szIs,storeOp,storeS,setRowV,eff,extV,buildV,splice,eqSV,fitsL,eqCells,eqCell,minmaxV,capV,binBV,nilCheckV,bytesV,V.cells,V.stays,s_zero,Orc.nothing,h0,hv,h4,hi,hc,hn,hld])
    refine effR_new fun i5 σ5 s5 a5 f5 => ?_
    have z5 := hs.none f5
    replace hs := hs.trans s5
    simp -implicitDefEqProofs only [BB,seval,← decide_not,okind,vpre,vpure,intBin,intPre,strBin,strPre,popTo,argSlots,fldV,fldAV,subCells,idxVV,idxAAV,idxSV,sliceV,sliceSV,boundV,szIs,storeOp,storeS,setRowV,eff,extV,buildV,splice,eqSV,fitsL,eqCells,eqCell,minmaxV,capV,binBV,nilCheckV,bytesV,a5,h0,hv,h4,hi,hP,encFs_c,encFs_s,V.cells_agg,V.cells_int,V.cells_nils,V.cells_own,V.cells_sl,V.cells_str,V.cells_bool,V.cells_fn,V.cells_ptr,V.cells_rp,V.stays_agg,V.stays_int,V.stays_nils,V.stays_own,V.stays_sl,V.stays_str,V.stays_bool,V.stays_fn,V.stays_ptr,V.stays_rp,s_zero]
    generalize hq5 : upd _ i5 _ = τ5
    replace a5 := (congrFun hq5 i5).symm.trans upd_same
    replace hs := Eq.subst (motive := SubStore _) hq5 (hs.updK z5)
    clear hq5
    refine effR_new fun i16 σ16 s16 a16 f16 => ?_
    have n516 := ne_new a5 f16
    replace a5 := s16 _ _ a5
    have z16 := hs.none f16
    replace hs := hs.trans s16
    have hd16 := dst_new a16
    have hsr := src_fs p.hs
    have hl16 := ld_fs p.hs
    simp -implicitDefEqProofs only [BB,seval,← decide_not,okind,vpre,vpure,intBin,intPre,strBin,strPre,popTo,argSlots,fldV,fldAV,subCells,idxVV,idxAAV,idxSV,sliceV,sliceSV,boundV,szIs,storeOp,storeS,setRowV,eff,extV,buildV,splice,eqSV,fitsL,eqCells,eqCell,minmaxV,capV,binBV,nilCheckV,bytesV,a16,a5,h0,hv,h4,hi,hP,hl16,hd16,hsr,hb1,List.length_map,Nat.zero_add,encFs_c,encFs_s,V.cells_agg,V.cells_int,V.cells_nils,V.cells_own,V.cells_sl,V.cells_str,V.cells_bool,V.cells_fn,V.cells_ptr,V.cells_rp,V.stays_agg,V.stays_int,V.stays_nils,V.stays_own,V.stays_sl,V.stays_str,V.stays_bool,V.stays_fn,V.stays_ptr,V.stays_rp,s_zero]
    refine effR_put fun i22 σ22 s22 a22 f22 => ?_
    have n522 := ne_new a5 f22
    have z22 := hs.none f22
    replace a5 := s22 i5 _ ((del_ne n516).trans a5)
    replace hs := (hs.delK z16).trans s22
    simp -implicitDefEqProofs only [BB,seval,← decide_not,okind,vpre,vpure,intBin,intPre,strBin,strPre,popTo,argSlots,fldV,fldAV,subCells,idxVV,idxAAV,idxSV,sliceV,sliceSV,boundV,szIs,storeOp,storeS,setRowV,eff,extV,buildV,splice,eqSV,fitsL,eqCells,eqCell,minmaxV,capV,binBV,nilCheckV,bytesV,V.cells,V.stays,s_zero]
    refine Runs.freeze [0, 3, 4, 5] 22 i22 0 p.hs.length (SubStore.of_del σ22 i22) a22 (by simp [del]) rfl (by simp) ?_
    replace a5 := (del_ne n522).trans a5
    replace hs := hs.delK z22
    clear a16 a22 s22 f22 n522 z22 n516 z16 s16 f16 s5 f5 hd16
    generalize del σ22 i22 = σ22 at *
    have ho := own_fs p.hs
    (refine Runs.of_step Orc.nothing 12 ?_; simp -implicitDefEqProofs only [BB,seval,← decide_not,okind,vpre,vpure,intBin,intPre,strBin,strPre,popTo,argSlots,fldV,fldAV,subCells,idxVV,idxAAV,idxSV,sliceV,sliceSV,boundV,szIs,storeOp,storeS,setRowV,eff,extV,buildV,splice,eqSV,fitsL,eqCells,eqCell,minmaxV,capV,binBV,nilCheckV,bytesV,V.cells,V.stays,s_zero,Orc.nothing,a5,ho,h0,hv,h4,hi,hP,encFs_c,encFs_s,V.cells_agg,V.cells_int,V.cells_nils,V.cells_own,V.cells_sl,V.cells_str,V.cells_bool,V.cells_fn,V.cells_ptr,V.cells_rp,-V.cells,V.stays_agg,V.stays_int,V.stays_nils,V.stays_own,V.stays_sl,V.stays_str,V.stays_bool,V.stays_fn,V.stays_ptr,V.stays_rp,-V.stays,s_zero])
    generalize hq5 : upd _ i5 _ = τ5
    replace a5 := (congrFun hq5 i5).symm.trans upd_same
    replace hs := Eq.subst (motive := SubStore _) hq5 (hs.updK z5)
    clear hq5
    refine effR_new fun i24 σ24 s24 a24 f24 => ?_
    have n524 := ne_new a5 f24
    replace a5 := s24 _ _ a5
    have z24 := hs.none f24
    replace hs := hs.trans s24
    have hd24 := dst_new a24
    have hsr := src_fs p.fs
    have hl24 := ld_fs p.fs
    simp -implicitDefEqProofs only [BB,seval,← decide_not,okind,vpre,vpure,intBin,intPre,strBin,strPre,popTo,argSlots,fldV,fldAV,subCells,idxVV,idxAAV,idxSV,sliceV,sliceSV,boundV,szIs,storeOp,storeS,setRowV,eff,extV,buildV,splice,eqSV,fitsL,eqCells,eqCell,minmaxV,capV,binBV,nilCheckV,bytesV,a24,a5,h0,hv,h4,hi,hP,hl24,hd24,hsr,hb2,List.length_map,Nat.zero_add,encFs_c,encFs_s,V.cells_agg,V.cells_int,V.cells_nils,V.cells_own,V.cells_sl,V.cells_str,V.cells_bool,V.cells_fn,V.cells_ptr,V.cells_rp,V.stays_agg,V.stays_int,V.stays_nils,V.stays_own,V.stays_sl,V.stays_str,V.stays_bool,V.stays_fn,V.stays_ptr,V.stays_rp,s_zero]
    refine effR_put fun i30 σ30 s30 a30 f30 => ?_
    have n530 := ne_new a5 f30
    have z30 := hs.none f30
    replace a5 := s30 i5 _ ((del_ne n524).trans a5)
    replace hs := (hs.delK z24).trans s30
    simp -implicitDefEqProofs only [BB,seval,← decide_not,okind,vpre,vpure,intBin,intPre,strBin,strPre,popTo,argSlots,fldV,fldAV,subCells,idxVV,idxAAV,idxSV,sliceV,sliceSV,boundV,szIs,storeOp,storeS,setRowV,eff,extV,buildV,splice,eqSV,fitsL,eqCells,eqCell,minmaxV,capV,binBV,nilCheckV,bytesV,V.cells,V.stays,s_zero]
    refine Runs.freeze [0, 3, 4, 5] 30 i30 0 p.fs.length (SubStore.of_del σ30 i30) a30 (by simp [del]) rfl (by simp) ?_
    replace a5 := (del_ne n530).trans a5
    replace hs := hs.delK z30
    clear a24 a30 s30 f30 n530 z30 n524 z24 s24 f24 hd24
    generalize del σ30 i30 = σ30 at *
    have ho24 := own_fs p.fs
    (refine Runs.of_step Orc.nothing 12 ?_; simp -implicitDefEqProofs only [BB,seval,← decide_not,okind,vpre,vpure,intBin,intPre,strBin,strPre,popTo,argSlots,fldV,fldAV,subCells,idxVV,idxAAV,idxSV,sliceV,sliceSV,boundV,szIs,storeOp,storeS,setRowV,eff,extV,buildV,splice,eqSV,fitsL,eqCells,eqCell,minmaxV,capV,binBV,nilCheckV,bytesV,V.cells,V.stays,s_zero,Orc.nothing,a5,ho24,h0,hv,h4,hi,hP,encFs_c,encFs_s,V.cells_agg,V.cells_int,V.cells_nils,V.cells_own,V.cells_sl,V.cells_str,V.cells_bool,V.cells_fn,V.cells_ptr,V.cells_rp,-V.cells,V.stays_agg,V.stays_int,V.stays_nils,V.stays_own,V.stays_sl,V.stays_str,V.stays_bool,V.stays_fn,V.stays_ptr,V.stays_rp,-V.stays,s_zero])
    generalize hq5 : upd _ i5 _ = τ5
    replace a5 := (congrFun hq5 i5).symm.trans upd_same
    replace hs := Eq.subst (motive := SubStore _) hq5 (hs.updK z5)
    clear hq5
    refine effR_new fun i32 σ32 s32 a32 f32 => ?_
    have n532 := ne_new a5 f32
    replace a5 := s32 _ _ a5
    have z32 := hs.none f32
    replace hs := hs.trans s32
    have hd32 := dst_new a32
    have hsr := src_fs p.ls
    have hl32 := ld_fs p.ls
    simp -implicitDefEqProofs only [BB,seval,← decide_not,okind,vpre,vpure,intBin,intPre,strBin,strPre,popTo,argSlots,fldV,fldAV,subCells,idxVV,idxAAV,idxSV,sliceV,sliceSV,boundV,szIs,storeOp,storeS,setRowV,eff,extV,buildV,splice,eqSV,fitsL,eqCells,eqCell,minmaxV,capV,binBV,nilCheckV,bytesV,a32,a5,h0,hv,h4,hi,hP,hl32,hd32,hsr,hb3,List.length_map,Nat.zero_add,encFs_c,encFs_s,V.cells_agg,V.cells_int,V.cells_nils,V.cells_own,V.cells_sl,V.cells_str,V.cells_bool,V.cells_fn,V.cells_ptr,V.cells_rp,V.stays_agg,V.stays_int,V.stays_nils,V.stays_own,V.stays_sl,V.stays_str,V.stays_bool,V.stays_fn,V.stays_ptr,V.stays_rp,s_zero]
    refine effR_put fun i38 σ38 s38 a38 f38 => ?_
    have n538 := ne_new a5 f38
    have z38 := hs.none f38
    replace a5 := s38 i5 _ ((del_ne n532).trans a5)
    replace hs := (hs.delK z32).trans s38
    simp -implicitDefEqProofs only [BB,seval,← decide_not,okind,vpre,vpure,intBin,intPre,strBin,strPre,popTo,argSlots,fldV,fldAV,subCells,idxVV,idxAAV,idxSV,sliceV,sliceSV,boundV,szIs,storeOp,storeS,setRowV,eff,extV,buildV,splice,eqSV,fitsL,eqCells,eqCell,minmaxV,capV,binBV,nilCheckV,bytesV,V.cells,V.stays,s_zero]
    refine Runs.freeze [0, 3, 4, 5] 38 i38 0 p.ls.length (SubStore.of_del σ38 i38) a38 (by simp [del]) rfl (by simp) ?_
    replace a5 := (del_ne n538).trans a5
    replace hs := hs.delK z38
    clear a32 a38 s38 f38 n538 z38 n532 z32 s32 f32 hd32
    generalize del σ38 i38 = σ38 at *
    have ho32 := own_fs p.ls
    (refine Runs.of_step Orc.nothing 4 ?_; simp -implicitDefEqProofs only [BB,seval,← decide_not,okind,vpre,vpure,intBin,intPre,strBin,strPre,popTo,argSlots,fldV,fldAV,subCells,idxVV,idxAAV,idxSV,sliceV,sliceSV,boundV,szIs,storeOp,storeS,setRowV,eff,extV,buildV,splice,eqSV,fitsL,eqCells,eqCell,minmaxV,capV,binBV,nilCheckV,bytesV,V.cells,V.stays,s_zero,Orc.nothing,a5,ho32,h0,hv,h4,hi,hP,encFs_c,encFs_s,V.cells_agg,V.cells_int,V.cells_nils,V.cells_own,V.cells_sl,V.cells_str,V.cells_bool,V.cells_fn,V.cells_ptr,V.cells_rp,-V.cells,V.stays_agg,V.stays_int,V.stays_nils,V.stays_own,V.stays_sl,V.stays_str,V.stays_bool,V.stays_fn,V.stays_ptr,V.stays_rp,-V.stays,s_zero])
    generalize hq5 : upd _ i5 _ = τ5
    replace a5 := (congrFun hq5 i5).symm.trans upd_same
    replace hs := Eq.subst (motive := SubStore _) hq5 (hs.updK z5)
    clear hq5
    (refine Runs.of_step Orc.nothing 300 ?_; simp -implicitDefEqProofs only [BB,seval,← decide_not,okind,vpre,vpure,intBin,intPre,strBin,strPre,popTo,argSlots,fldV,fldAV,subCells,idxVV,idxAAV,idxSV,sliceV,sliceSV,boundV,szIs,storeOp,storeS,setRowV,eff,extV,buildV,splice,eqSV,fitsL,eqCells,eqCell,minmaxV,capV,binBV,nilCheckV,bytesV,Orc.nothing,a5,h0,hv,h4,hi,encFs_c,encFs_s,V.cells_agg,V.cells_int,V.cells_nils,V.cells_own,V.cells_sl,V.cells_str,V.cells_bool,V.cells_fn,V.cells_ptr,V.cells_rp,V.stays_agg,V.stays_int,V.stays_nils,V.stays_own,V.stays_sl,V.stays_str,V.stays_bool,V.stays_fn,V.stays_ptr,V.stays_rp])
    refine effR_new fun i42 σ42 s42 a42 f42 => ?_
    have n542 := ne_new a5 f42
    replace a5 := s42 _ _ a5
    have z42 := hs.none f42
    replace hs := hs.trans s42
    obtain ⟨idA, hd, hdel⟩ := (h3.mono hs).dst (SubStore.refl _)
    have hsr := srcOne a42
    have hb : (((l.take j).map encP).length + 1) * 89 ≤ 140737488355328 := by simp only [List.length_map,List.length_take]; omega
    have htk : (l.take (j + 1)).map encP = (l.take j).map encP ++ [encP p] := by rw [List.take_add_one, hp]; simp
    simp -implicitDefEqProofs only [BB,seval,← decide_not,okind,vpre,vpure,intBin,intPre,strBin,strPre,popTo,argSlots,fldV,fldAV,subCells,idxVV,idxAAV,idxSV,sliceV,sliceSV,boundV,szIs,storeOp,storeS,setRowV,eff,extV,buildV,splice,eqSV,fitsL,eqCells,eqCell,minmaxV,capV,binBV,nilCheckV,bytesV,a42,a5,h0,hv,h4,hi,hd,hsr,hb,encFs_c,encFs_s,V.cells_agg,V.cells_int,V.cells_nils,V.cells_own,V.cells_sl,V.cells_str,V.cells_bool,V.cells_fn,V.cells_ptr,V.cells_rp,V.stays_agg,V.stays_int,V.stays_nils,V.stays_own,V.stays_sl,V.stays_str,V.stays_bool,V.stays_fn,V.stays_ptr,V.stays_rp]
    refine effR_put fun i43 σ43 s43 a43 f43 => ?_
    have ht : ∀ q : List Fg, (q.map encF).take q.length = q.map encF := fun q => List.take_of_length_le (by simp)
    rw [ht, ht, ht] at a43
    simp -implicitDefEqProofs only [BB,seval,← decide_not,okind,vpre,vpure,intBin,intPre,strBin,strPre,popTo,argSlots,fldV,fldAV,subCells,idxVV,idxAAV,idxSV,sliceV,sliceSV,boundV,szIs,storeOp,storeS,setRowV,eff,extV,buildV,splice,eqSV,fitsL,eqCells,eqCell,minmaxV,capV,binBV,nilCheckV,bytesV,V.cells,V.stays,h0,hv,h4]
    exact ⟨inR_i64 (by omega) (by omega), l.length - (j + 1), by omega, j + 1, by omega, rfl, by rw [htk]; exact OutV.new (by simp) a43 (hσ.none (hs.none f43)), by simp [vI], (hdel σ (SubStore.refl _) _ (hσ.trans hs)).trans s43⟩
  · have hc : ((j : Int) < l.length) = False := by simp; omega
    (refine Runs.of_step Orc.nothing 300 ?_; simp -implicitDefEqProofs only [BB,seval,← decide_not,okind,vpre,vpure,intBin,intPre,strBin,strPre,popTo,argSlots,fldV,fldAV,subCells,idxVV,idxAAV,idxSV,sliceV,sliceSV,boundV,szIs,storeOp,storeS,setRowV,eff,extV,buildV,splice,eqSV,fitsL,eqCells,eqCell,minmaxV,capV,binBV,nilCheckV,bytesV,V.cells,V.stays,Orc.nothing,h0,hv,h4,hc,hn])
    have : l.take j = l := List.take_of_length_le (by omega)
    rw [this] at h3
    exact h3.retv hσ rfl
end Go.Vc
namespace Go.Vc
open Go.Proofs
theorem sl_own {σ : Store} {id e n : Nat} {rows : List V} (h : σ id = some ⟨e, 7, rows⟩) : sliceV σ 7 (.own id 0 n) none (some (.int .i64 n)) (some (.int .i64 n)) = some (.own id 0 n) := by
  simp [sliceV, boundV, szIs, h]
theorem clip_c {K σ : Store} {e : Nat} {v : V} {rows : List V} (h : OutV K σ e 7 v rows) : Contract Tryz.prog 57 [v] σ fun r σ' => r = v ∧ σ' = σ := by
  refine Contract.of_runs Tryz.func57 e57 k57 (by simp [c57]) ?_
  refine Runs.mix 9 ?_
  rcases h with ⟨rfl, _⟩ | ⟨id, rfl, ho, _⟩
  · (refine Runs.of_step Orc.nothing 300 ?_; simp -implicitDefEqProofs only [BB,seval,← decide_not,okind,vpre,vpure,intBin,intPre,strBin,strPre,popTo,argSlots,fldV,fldAV,subCells,idxVV,idxAAV,idxSV,sliceV,sliceSV,boundV,szIs,storeOp,storeS,setRowV,eff,extV,buildV,splice,eqSV,fitsL,eqCells,eqCell,minmaxV,capV,binBV,nilCheckV,bytesV,V.cells,V.stays,Orc.nothing,c57])
    exact RetV.same rfl
  · have hsl := sl_own (n := rows.length) ho
    (refine Runs.of_step Orc.nothing 300 ?_; simp -implicitDefEqProofs only [BB,seval,← decide_not,okind,vpre,vpure,intBin,intPre,strBin,strPre,popTo,argSlots,fldV,fldAV,subCells,idxVV,idxAAV,idxSV,sliceSV,boundV,szIs,storeOp,storeS,setRowV,eff,extV,buildV,splice,eqSV,fitsL,eqCells,eqCell,minmaxV,capV,binBV,nilCheckV,bytesV,V.cells,V.stays,Orc.nothing,c57,hsl])
    exact RetV.same rfl
theorem gath_c (f : FuncId) (g : Pg → List Fg) (l : List Pg) (hl : Small l) (hg : ∀ p ∈ l, (g p).length ≤ 60 ∧ PFun Tryz.prog f [encP p] (encFs (g p))) (σ : Store) :
    Contract Tryz.prog 40 [encPs l, .fn f []] σ fun r σ' => SubStore σ σ' ∧ OutV σ σ' 89 7 r ((l.flatMap g).map encF) := by
  refine Contract.of_runs Tryz.func40 e40 k40 (by simp [c40]) ?_
  have hn := len_ps l
  have hjl := hl.1
  refine Runs.mix 11 ?_
  (refine Runs.of_step Orc.nothing 300 ?_; simp -implicitDefEqProofs only [BB,seval,← decide_not,okind,vpre,vpure,intBin,intPre,strBin,strPre,popTo,argSlots,fldV,fldAV,subCells,idxVV,idxAAV,idxSV,sliceV,sliceSV,boundV,szIs,storeOp,storeS,setRowV,eff,extV,buildV,splice,eqSV,fitsL,eqCells,eqCell,minmaxV,capV,binBV,nilCheckV,bytesV,V.cells,V.stays,Orc.nothing,c40,hn])
  refine Runs.loop (fun m st => ∃ j : Nat, j ≤ l.length ∧ m = l.length - j ∧ st.s 1 = .fn f [] ∧ st.s 8 = encPs l ∧ st.s 9 = vI l.length ∧ st.s 10 = vI j ∧ OutV σ st.σ 89 7 (st.s 5) (((l.take j).flatMap g).map encF) ∧ SubStore σ st.σ) l.length ⟨0, by omega, rfl, rfl, rfl, rfl, rfl, OutV.start, SubStore.refl σ⟩ ?_
  rintro m ⟨s', σ'⟩ ⟨j, hj, rfl, h1, h8, h9, h10, h5, hσ⟩
  simp only at h1 h8 h9 h10 h5 hσ
  generalize hv : s' 5 = v at h5
  refine Runs.mix 22 ?_
  by_cases hlt : j < l.length
  · obtain ⟨p, hp⟩ : ∃ p, l[j]? = some p := ⟨l[j], by simp [hlt]⟩
    have hi := idx_ps hp
    have hc : ((j : Int) < l.length) = True := by simp; omega
    have hld := ld_ps p
    obtain ⟨hgl, hgp⟩ := hg p (List.mem_of_getElem? hp)
    have hP : encP p = .agg [vI p.no, vI p.kind, encFs p.hs, encFs p.fs, encFs p.ls] := rfl
    have hs := SubStore.refl σ'
    have hfl := flat_le g (l := l.take j) (fun q hq => (hg q (List.mem_of_mem_take hq)).1)
    simp only [List.length_take] at hfl
    (refine Runs.of_step Orc.nothing 300 ?_; simp -implicitDefEqProofs only [BB,seval,← decide_not,okind,vpre,vpure,intBin,intPre,strBin,strPre,popTo,argSlots,fldV,fldAV,subCells,idxVV,idxAAV,idxSV,sliceV,sliceSV,boundV,szIs,storeOp,storeS,setRowV,eff,extV,buildV,splice,eqSV,fitsL,eqCells,eqCell,minmaxV,capV,binBV,nilCheckV,bytesV,V.cells,V.stays,Orc.nothing,h1,h8,h9,h10,hv,hi,hc,hn,hld])
    refine effR_new fun i7 σ7 s7 a7 f7 => ?_
    have z7 := hs.none f7
    replace hs := hs.trans s7
    simp -implicitDefEqProofs only [BB,seval,← decide_not,okind,vpre,vpure,intBin,intPre,strBin,strPre,popTo,argSlots,fldV,fldAV,subCells,idxVV,idxAAV,idxSV,sliceV,sliceSV,boundV,szIs,storeOp,storeS,setRowV,eff,extV,buildV,splice,eqSV,fitsL,eqCells,eqCell,minmaxV,capV,binBV,nilCheckV,bytesV,a7,h1,h8,h9,h10,hv,hP,encFs_c,encFs_s,V.cells_agg,V.cells_int,V.cells_nils,V.cells_own,V.cells_sl,V.cells_str,V.cells_bool,V.cells_fn,V.cells_ptr,V.cells_rp,V.stays_agg,V.stays_int,V.stays_nils,V.stays_own,V.stays_sl,V.stays_str,V.stays_bool,V.stays_fn,V.stays_ptr,V.stays_rp]
    generalize hq7 : upd _ i7 _ = τ7
    replace a7 := (congrFun hq7 i7).symm.trans upd_same
    replace hs := Eq.subst (motive := SubStore _) hq7 (hs.updK z7)
    clear hq7
    refine Runs.pcall rfl rfl rfl (hgp _) ?_
    obtain ⟨idA, hd, hdel⟩ := (h5.mono hs).dst (SubStore.refl _)
    have hsr := fun σ => src_fs (g p) σ
    have hb : (((l.take j).flatMap g).length + (g p).length) * 57 ≤ 140737488355328 := by
      have h60 : min j l.length ≤ 60 := by omega
      have : min j l.length * 60 ≤ 3600 := by omega
      omega
    have htk : ((l.take (j + 1)).flatMap g).map encF = ((l.take j).flatMap g).map encF ++ (g p).map encF := by
      rw [List.take_add_one, hp]; simp
    (refine Runs.of_step Orc.nothing 300 ?_; simp -implicitDefEqProofs only [BB,seval,← decide_not,okind,vpre,vpure,intBin,intPre,strBin,strPre,popTo,argSlots,fldV,fldAV,subCells,idxVV,idxAAV,idxSV,sliceV,sliceSV,boundV,szIs,storeOp,storeS,setRowV,eff,extV,buildV,splice,eqSV,fitsL,eqCells,eqCell,minmaxV,capV,binBV,nilCheckV,bytesV,Orc.nothing,a7,h1,h8,h9,h10,hv,hd,hsr,hb,List.length_map,encFs_c,encFs_s,V.cells_agg,V.cells_int,V.cells_nils,V.cells_own,V.cells_sl,V.cells_str,V.cells_bool,V.cells_fn,V.cells_ptr,V.cells_rp,V.stays_agg,V.stays_int,V.stays_nils,V.stays_own,V.stays_sl,V.stays_str,V.stays_bool,V.stays_fn,V.stays_ptr,V.stays_rp])
    refine effR_put fun i18 σ18 s18 a18 f18 => ?_
    simp -implicitDefEqProofs only [BB,seval,← decide_not,okind,vpre,vpure,intBin,intPre,strBin,strPre,popTo,argSlots,fldV,fldAV,subCells,idxVV,idxAAV,idxSV,sliceV,sliceSV,boundV,szIs,storeOp,storeS,setRowV,eff,extV,buildV,splice,eqSV,fitsL,eqCells,eqCell,minmaxV,capV,binBV,nilCheckV,bytesV,V.cells,V.stays,h1,h8,h9,h10]
    exact ⟨inR_i64 (by omega) (by omega), l.length - (j + 1), by omega, j + 1, by omega, rfl, by simp [vI], by rw [htk]; exact OutV.new (by simp) a18 (hσ.none (hs.none f18)), (hdel σ (SubStore.refl _) _ (hσ.trans hs)).trans s18⟩
  · have hc : ((j : Int) < l.length) = False := by simp; omega
    (refine Runs.of_step Orc.nothing 300 ?_; simp -implicitDefEqProofs only [BB,seval,← decide_not,okind,vpre,vpure,intBin,intPre,strBin,strPre,popTo,argSlots,fldV,fldAV,subCells,idxVV,idxAAV,idxSV,sliceV,sliceSV,boundV,szIs,storeOp,storeS,setRowV,eff,extV,buildV,splice,eqSV,fitsL,eqCells,eqCell,minmaxV,capV,binBV,nilCheckV,bytesV,V.cells,V.stays,Orc.nothing,h1,h8,h9,h10,hv,hc])
    have : l.take j = l := List.take_of_length_le (by omega)
    rw [this] at h5
    refine Runs.call rfl rfl rfl (clip_c h5) ?_
    rintro r σ2 ⟨rfl, rfl⟩
    (refine Runs.of_step Orc.nothing 300 ?_; simp -implicitDefEqProofs only [BB,seval,← decide_not,okind,vpre,vpure,intBin,intPre,strBin,strPre,popTo,argSlots,fldV,fldAV,subCells,idxVV,idxAAV,idxSV,sliceV,sliceSV,boundV,szIs,storeOp,storeS,setRowV,eff,extV,buildV,splice,eqSV,fitsL,eqCells,eqCell,minmaxV,capV,binBV,nilCheckV,bytesV,V.cells,V.stays,Orc.nothing])
    exact ⟨_, _, SubStore.refl _, Wk.refl (SubStore.refl _) _, hσ, h5⟩
theorem tell_fs (p : Pg) : PFun Tryz.prog 41 [encP p] (encFs p.fs) := fun σ => by
  refine Contract.of_runs Tryz.func41 e41 k41 (by simp [c41]) ?_
  have hs := SubStore.refl σ
  refine Runs.mix 5 ?_
  (refine Runs.of_step Orc.nothing 300 ?_; simp -implicitDefEqProofs only [BB,seval,← decide_not,okind,vpre,vpure,intBin,intPre,strBin,strPre,popTo,argSlots,fldV,fldAV,subCells,idxVV,idxAAV,idxSV,sliceV,sliceSV,boundV,szIs,storeOp,storeS,setRowV,eff,extV,buildV,splice,eqSV,fitsL,eqCells,eqCell,minmaxV,capV,binBV,nilCheckV,bytesV,Orc.nothing,c41,encP,encFs_c,encFs_s,V.cells_agg,V.cells_int,V.cells_nils,V.cells_own,V.cells_sl,V.cells_str,V.cells_bool,V.cells_fn,V.cells_ptr,V.cells_rp,V.stays_agg,V.stays_int,V.stays_nils,V.stays_own,V.stays_sl,V.stays_str,V.stays_bool,V.stays_fn,V.stays_ptr,V.stays_rp])
  refine effR_new fun i1 σ1 s1 a1 f1 => ?_
  have z1 := hs.none f1
  replace hs := hs.trans s1
  simp -implicitDefEqProofs only [BB,seval,← decide_not,okind,vpre,vpure,intBin,intPre,strBin,strPre,popTo,argSlots,fldV,fldAV,subCells,idxVV,idxAAV,idxSV,sliceV,sliceSV,boundV,szIs,storeOp,storeS,setRowV,eff,extV,buildV,splice,eqSV,fitsL,eqCells,eqCell,minmaxV,capV,binBV,nilCheckV,bytesV,a1,encFs_c,encFs_s,V.cells_agg,V.cells_int,V.cells_nils,V.cells_own,V.cells_sl,V.cells_str,V.cells_bool,V.cells_fn,V.cells_ptr,V.cells_rp,V.stays_agg,V.stays_int,V.stays_nils,V.stays_own,V.stays_sl,V.stays_str,V.stays_bool,V.stays_fn,V.stays_ptr,V.stays_rp]
  exact RetV.pure hs rfl
theorem tell_ls (p : Pg) : PFun Tryz.prog 42 [encP p] (encFs p.ls) := fun σ => by
  refine Contract.of_runs Tryz.func42 e42 k42 (by simp [c42]) ?_
  have hs := SubStore.refl σ
  refine Runs.mix 5 ?_
  (refine Runs.of_step Orc.nothing 300 ?_; simp -implicitDefEqProofs only [BB,seval,← decide_not,okind,vpre,vpure,intBin,intPre,strBin,strPre,popTo,argSlots,fldV,fldAV,subCells,idxVV,idxAAV,idxSV,sliceV,sliceSV,boundV,szIs,storeOp,storeS,setRowV,eff,extV,buildV,splice,eqSV,fitsL,eqCells,eqCell,minmaxV,capV,binBV,nilCheckV,bytesV,Orc.nothing,c42,encP,encFs_c,encFs_s,V.cells_agg,V.cells_int,V.cells_nils,V.cells_own,V.cells_sl,V.cells_str,V.cells_bool,V.cells_fn,V.cells_ptr,V.cells_rp,V.stays_agg,V.stays_int,V.stays_nils,V.stays_own,V.stays_sl,V.stays_str,V.stays_bool,V.stays_fn,V.stays_ptr,V.stays_rp])
  refine effR_new fun i1 σ1 s1 a1 f1 => ?_
  have z1 := hs.none f1
  replace hs := hs.trans s1
  simp -implicitDefEqProofs only [BB,seval,← decide_not,okind,vpre,vpure,intBin,intPre,strBin,strPre,popTo,argSlots,fldV,fldAV,subCells,idxVV,idxAAV,idxSV,sliceV,sliceSV,boundV,szIs,storeOp,storeS,setRowV,eff,extV,buildV,splice,eqSV,fitsL,eqCells,eqCell,minmaxV,capV,binBV,nilCheckV,bytesV,a1,encFs_c,encFs_s,V.cells_agg,V.cells_int,V.cells_nils,V.cells_own,V.cells_sl,V.cells_str,V.cells_bool,V.cells_fn,V.cells_ptr,V.cells_rp,V.stays_agg,V.stays_int,V.stays_nils,V.stays_own,V.stays_sl,V.stays_str,V.stays_bool,V.stays_fn,V.stays_ptr,V.stays_rp]
  exact RetV.pure hs rfl
theorem patoms_c (l : List Pg) (hl : Small l) (σ : Store) : Contract Tryz.prog 16 [encPs l] σ fun r σ' => SubStore σ σ' ∧ OutV σ σ' 89 7 r ((l.flatMap (·.fs)).map encF) := by
  refine Contract.of_runs Tryz.func16 e16 k16 (by simp [c16]) ?_
  refine Runs.mix 5 ?_
  (refine Runs.of_step Orc.nothing 300 ?_; simp -implicitDefEqProofs only [BB,seval,← decide_not,okind,vpre,vpure,intBin,intPre,strBin,strPre,popTo,argSlots,fldV,fldAV,subCells,idxVV,idxAAV,idxSV,sliceV,sliceSV,boundV,szIs,storeOp,storeS,setRowV,eff,extV,buildV,splice,eqSV,fitsL,eqCells,eqCell,minmaxV,capV,binBV,nilCheckV,bytesV,V.cells,V.stays,Orc.nothing,c16])
  refine Runs.call rfl rfl rfl (gath_c _ (·.fs) l hl (fun p hp => ⟨(hl.2 p hp).2.1, tell_fs p⟩) σ) ?_
  rintro r σ2 ⟨h1, h2⟩
  (refine Runs.of_step Orc.nothing 300 ?_; simp -implicitDefEqProofs only [BB,seval,← decide_not,okind,vpre,vpure,intBin,intPre,strBin,strPre,popTo,argSlots,fldV,fldAV,subCells,idxVV,idxAAV,idxSV,sliceV,sliceSV,boundV,szIs,storeOp,storeS,setRowV,eff,extV,buildV,splice,eqSV,fitsL,eqCells,eqCell,minmaxV,capV,binBV,nilCheckV,bytesV,V.cells,V.stays,Orc.nothing])
  exact ⟨_, _, SubStore.refl _, Wk.refl (SubStore.refl _) _, h1, h2⟩
theorem pfloats_c (l : List Pg) (hl : Small l) (σ : Store) : Contract Tryz.prog 17 [encPs l] σ fun r σ' => SubStore σ σ' ∧ OutV σ σ' 89 7 r ((l.flatMap (·.ls)).map encF) := by
  refine Contract.of_runs Tryz.func17 e17 k17 (by simp [c17]) ?_
  refine Runs.mix 5 ?_
  (refine Runs.of_step Orc.nothing 300 ?_; simp -implicitDefEqProofs only [BB,seval,← decide_not,okind,vpre,vpure,intBin,intPre,strBin,strPre,popTo,argSlots,fldV,fldAV,subCells,idxVV,idxAAV,idxSV,sliceV,sliceSV,boundV,szIs,storeOp,storeS,setRowV,eff,extV,buildV,splice,eqSV,fitsL,eqCells,eqCell,minmaxV,capV,binBV,nilCheckV,bytesV,V.cells,V.stays,Orc.nothing,c17])
  refine Runs.call rfl rfl rfl (gath_c _ (·.ls) l hl (fun p hp => ⟨(hl.2 p hp).2.2, tell_ls p⟩) σ) ?_
  rintro r σ2 ⟨h1, h2⟩
  (refine Runs.of_step Orc.nothing 300 ?_; simp -implicitDefEqProofs only [BB,seval,← decide_not,okind,vpre,vpure,intBin,intPre,strBin,strPre,popTo,argSlots,fldV,fldAV,subCells,idxVV,idxAAV,idxSV,sliceV,sliceSV,boundV,szIs,storeOp,storeS,setRowV,eff,extV,buildV,splice,eqSV,fitsL,eqCells,eqCell,minmaxV,capV,binBV,nilCheckV,bytesV,V.cells,V.stays,Orc.nothing])
  exact ⟨_, _, SubStore.refl _, Wk.refl (SubStore.refl _) _, h1, h2⟩
end Go.Vc
namespace Go.Vc
open Go.Proofs
set_option maxHeartbeats 4000000 in
theorem pagesTell_c (hw : PFun Tryz.prog 13 [] (.bool true)) (l : List Pg) (hlen : l.length ≤ 10000000000000) (hlen2 : ∀ p ∈ l, p.hs.length ≤ 1000000000000000 ∧ p.fs.length ≤ 1000000000000000 ∧ p.ls.length ≤ 1000000000000000) : PFun Tryz.prog 4 [encPs l] (.bool true) := fun σ => by
  refine Contract.of_runs Tryz.func4 e4 k4 (by simp [c4]) ?_
  have hn := len_ps l
  refine Runs.mix 14 ?_
  by_cases hl : l.length ≤ 60
  case neg =>
    have hc : ((l.length : Int) > 60) = True := by simp; omega
    (refine Runs.of_step Orc.nothing 300 ?_; simp -implicitDefEqProofs only [BB,seval,← decide_not,okind,vpre,vpure,intBin,intPre,strBin,strPre,popTo,argSlots,fldV,fldAV,subCells,idxVV,idxAAV,idxSV,sliceV,sliceSV,boundV,szIs,storeOp,storeS,setRowV,eff,extV,buildV,splice,eqSV,fitsL,eqCells,eqCell,minmaxV,capV,binBV,nilCheckV,bytesV,V.cells,V.stays,Orc.nothing,c4,hn,hc])
    refine Runs.pcall rfl rfl rfl (hw _) ?_
    (refine Runs.of_step Orc.nothing 300 ?_; simp -implicitDefEqProofs only [BB,seval,← decide_not,okind,vpre,vpure,intBin,intPre,strBin,strPre,popTo,argSlots,fldV,fldAV,subCells,idxVV,idxAAV,idxSV,sliceV,sliceSV,boundV,szIs,storeOp,storeS,setRowV,eff,extV,buildV,splice,eqSV,fitsL,eqCells,eqCell,minmaxV,capV,binBV,nilCheckV,bytesV,V.cells,V.stays,Orc.nothing])
    exact RetV.same rfl
  have hc : ((l.length : Int) > 60) = False := by simp; omega
  (refine Runs.of_step Orc.nothing 300 ?_; simp -implicitDefEqProofs only [BB,seval,← decide_not,okind,vpre,vpure,intBin,intPre,strBin,strPre,popTo,argSlots,fldV,fldAV,subCells,idxVV,idxAAV,idxSV,sliceV,sliceSV,boundV,szIs,storeOp,storeS,setRowV,eff,extV,buildV,splice,eqSV,fitsL,eqCells,eqCell,minmaxV,capV,binBV,nilCheckV,bytesV,V.cells,V.stays,Orc.nothing,c4,hn,hc])
  refine Runs.loop (fun m st => ∃ j : Nat, j ≤ l.length ∧ m = l.length - j ∧ st.s 0 = encPs l ∧ st.s 3 = vI j ∧ st.σ = σ ∧ ∀ p ∈ l.take j, p.hs.length ≤ 60 ∧ p.fs.length ≤ 60 ∧ p.ls.length ≤ 60) l.length ⟨0, by omega, rfl, rfl, rfl, rfl, by simp⟩ ?_
  rintro m ⟨s', σ'⟩ ⟨j, hj, rfl, h0, h3, hs, hsm⟩
  simp only at h0 h3 hs
  subst hs
  refine Runs.mix 96 ?_
  by_cases hlt : j < l.length
  · obtain ⟨p, hp⟩ : ∃ p, l[j]? = some p := ⟨l[j], by simp [hlt]⟩
    have hi := idx_ps hp
    have hc : ((j : Int) < l.length) = True := by simp; omega
    have hpl := hlen2 p (List.mem_of_getElem? hp)
    have hP : encP p = .agg [vI p.no, vI p.kind, encFs p.hs, encFs p.fs, encFs p.ls] := rfl
    have l1 := len_fs p.hs
    have l2 := len_fs p.fs
    have l3 := len_fs p.ls
    have hld := fun q => ld_fs q
    by_cases c1 : p.hs.length ≤ 60
    case neg =>
      have q1 : ((p.hs.length : Int) > 60) = True := by simp; omega
      (refine Runs.of_step Orc.nothing 300 ?_; simp -implicitDefEqProofs only [BB,seval,← decide_not,okind,vpre,vpure,intBin,intPre,strBin,strPre,popTo,argSlots,fldV,fldAV,subCells,idxVV,idxAAV,idxSV,sliceV,sliceSV,boundV,szIs,storeOp,storeS,setRowV,eff,extV,buildV,splice,eqSV,fitsL,eqCells,eqCell,minmaxV,capV,binBV,nilCheckV,bytesV,V.cells,V.stays,Orc.nothing,h0,h3,hc,hn,hi,hP,hld,l1,l2,l3,q1])
      refine Runs.pcall rfl rfl rfl (hw _) ?_
      (refine Runs.of_step Orc.nothing 300 ?_; simp -implicitDefEqProofs only [BB,seval,← decide_not,okind,vpre,vpure,intBin,intPre,strBin,strPre,popTo,argSlots,fldV,fldAV,subCells,idxVV,idxAAV,idxSV,sliceV,sliceSV,boundV,szIs,storeOp,storeS,setRowV,eff,extV,buildV,splice,eqSV,fitsL,eqCells,eqCell,minmaxV,capV,binBV,nilCheckV,bytesV,V.cells,V.stays,Orc.nothing])
      exact RetV.same rfl
    have q1 : ((p.hs.length : Int) > 60) = False := by simp; omega
    by_cases c2 : p.fs.length ≤ 60
    case neg =>
      have q2 : ((p.fs.length : Int) > 60) = True := by simp; omega
      (refine Runs.of_step Orc.nothing 300 ?_; simp -implicitDefEqProofs only [BB,seval,← decide_not,okind,vpre,vpure,intBin,intPre,strBin,strPre,popTo,argSlots,fldV,fldAV,subCells,idxVV,idxAAV,idxSV,sliceV,sliceSV,boundV,szIs,storeOp,storeS,setRowV,eff,extV,buildV,splice,eqSV,fitsL,eqCells,eqCell,minmaxV,capV,binBV,nilCheckV,bytesV,V.cells,V.stays,Orc.nothing,h0,h3,hc,hn,hi,hP,hld,l1,l2,l3,q1,q2])
      refine Runs.pcall rfl rfl rfl (hw _) ?_
      (refine Runs.of_step Orc.nothing 300 ?_; simp -implicitDefEqProofs only [BB,seval,← decide_not,okind,vpre,vpure,intBin,intPre,strBin,strPre,popTo,argSlots,fldV,fldAV,subCells,idxVV,idxAAV,idxSV,sliceV,sliceSV,boundV,szIs,storeOp,storeS,setRowV,eff,extV,buildV,splice,eqSV,fitsL,eqCells,eqCell,minmaxV,capV,binBV,nilCheckV,bytesV,V.cells,V.stays,Orc.nothing])
      exact RetV.same rfl
    have q2 : ((p.fs.length : Int) > 60) = False := by simp; omega
    by_cases c3 : p.ls.length ≤ 60
    case neg =>
      have q3 : ((p.ls.length : Int) > 60) = True := by simp; omega
      (refine Runs.of_step Orc.nothing 300 ?_; simp -implicitDefEqProofs only [BB,seval,← decide_not,okind,vpre,vpure,intBin,intPre,strBin,strPre,popTo,argSlots,fldV,fldAV,subCells,idxVV,idxAAV,idxSV,sliceV,sliceSV,boundV,szIs,storeOp,storeS,setRowV,eff,extV,buildV,splice,eqSV,fitsL,eqCells,eqCell,minmaxV,capV,binBV,nilCheckV,bytesV,V.cells,V.stays,Orc.nothing,h0,h3,hc,hn,hi,hP,hld,l1,l2,l3,q1,q2,q3])
      refine Runs.pcall rfl rfl rfl (hw _) ?_
      (refine Runs.of_step Orc.nothing 300 ?_; simp -implicitDefEqProofs only [BB,seval,← decide_not,okind,vpre,vpure,intBin,intPre,strBin,strPre,popTo,argSlots,fldV,fldAV,subCells,idxVV,idxAAV,idxSV,sliceV,sliceSV,boundV,szIs,storeOp,storeS,setRowV,eff,extV,buildV,splice,eqSV,fitsL,eqCells,eqCell,minmaxV,capV,binBV,nilCheckV,bytesV,V.cells,V.stays,Orc.nothing])
      exact RetV.same rfl
    have q3 : ((p.ls.length : Int) > 60) = False := by simp; omega
    (refine Runs.of_step Orc.nothing 300 ?_; simp -implicitDefEqProofs only [BB,seval,← decide_not,okind,vpre,vpure,intBin,intPre,strBin,strPre,popTo,argSlots,fldV,fldAV,subCells,idxVV,idxAAV,idxSV,sliceV,sliceSV,boundV,szIs,storeOp,storeS,setRowV,eff,extV,buildV,splice,eqSV,fitsL,eqCells,eqCell,minmaxV,capV,binBV,nilCheckV,bytesV,V.cells,V.stays,Orc.nothing,h0,h3,hc,hn,hi,hP,hld,l1,l2,l3,q1,q2,q3])
    refine ⟨inR_i64 (by omega) (by omega), l.length - (j + 1), by omega, j + 1, by omega, rfl, by simp [vI], ?_⟩
    intro q hq
    rw [List.take_add_one, hp] at hq
    rcases List.mem_append.1 hq with hq | hq
    · exact hsm q hq
    · simp only [Option.toList,List.mem_singleton] at hq
      subst hq; exact ⟨c1, c2, c3⟩
  · have hc : ((j : Int) < l.length) = False := by simp; omega
    have hS : Small l := ⟨hl, by rw [List.take_of_length_le (by omega)] at hsm; exact hsm⟩
    have hk : ∀ k, ((cntK l k : Int) ≠ cntK l k) = False := fun k => by simp
    have k1 := hk 1
    have k2 := hk 2
    have k3 := hk 3
    have hs := SubStore.refl σ'
    (refine Runs.of_step Orc.nothing 300 ?_; simp -implicitDefEqProofs only [BB,seval,← decide_not,okind,vpre,vpure,intBin,intPre,strBin,strPre,popTo,argSlots,fldV,fldAV,subCells,idxVV,idxAAV,idxSV,sliceV,sliceSV,boundV,szIs,storeOp,storeS,setRowV,eff,extV,buildV,splice,eqSV,fitsL,eqCells,eqCell,minmaxV,capV,binBV,nilCheckV,bytesV,V.cells,V.stays,Orc.nothing,h0,h3,hc,hn])
    refine Runs.pcall rfl rfl rfl (pown_c l hS _) ?_
    (refine Runs.of_step Orc.nothing 300 ?_; simp -implicitDefEqProofs only [BB,seval,← decide_not,okind,vpre,vpure,intBin,intPre,strBin,strPre,popTo,argSlots,fldV,fldAV,subCells,idxVV,idxAAV,idxSV,sliceV,sliceSV,boundV,szIs,storeOp,storeS,setRowV,eff,extV,buildV,splice,eqSV,fitsL,eqCells,eqCell,minmaxV,capV,binBV,nilCheckV,bytesV,V.cells,V.stays,Orc.nothing,h0])
    refine Runs.pcall rfl rfl rfl (kinds_c l hS _) ?_
    (refine Runs.of_step Orc.nothing 300 ?_; simp -implicitDefEqProofs only [BB,seval,← decide_not,okind,vpre,vpure,intBin,intPre,strBin,strPre,popTo,argSlots,fldV,fldAV,subCells,idxVV,idxAAV,idxSV,sliceV,sliceSV,boundV,szIs,storeOp,storeS,setRowV,eff,extV,buildV,splice,eqSV,fitsL,eqCells,eqCell,minmaxV,capV,binBV,nilCheckV,bytesV,V.cells,V.stays,Orc.nothing,h0])
    refine Runs.call rfl rfl rfl (patoms_c l hS _) ?_
    rintro x σ2 ⟨s2, ox⟩
    (refine Runs.of_step Orc.nothing 300 ?_; simp -implicitDefEqProofs only [BB,seval,← decide_not,okind,vpre,vpure,intBin,intPre,strBin,strPre,popTo,argSlots,fldV,fldAV,subCells,idxVV,idxAAV,idxSV,sliceV,sliceSV,boundV,szIs,storeOp,storeS,setRowV,eff,extV,buildV,splice,eqSV,fitsL,eqCells,eqCell,minmaxV,capV,binBV,nilCheckV,bytesV,V.cells,V.stays,Orc.nothing,h0])
    refine Runs.call rfl rfl rfl (pfloats_c l hS _) ?_
    rintro y σ3 ⟨s3, oy⟩
    (refine Runs.of_step Orc.nothing 300 ?_; simp -implicitDefEqProofs only [BB,seval,← decide_not,okind,vpre,vpure,intBin,intPre,strBin,strPre,popTo,argSlots,fldV,fldAV,subCells,idxVV,idxAAV,idxSV,sliceV,sliceSV,boundV,szIs,storeOp,storeS,setRowV,eff,extV,buildV,splice,eqSV,fitsL,eqCells,eqCell,minmaxV,capV,binBV,nilCheckV,bytesV,V.cells,V.stays,Orc.nothing,h0])
    refine Runs.pcall rfl rfl rfl (rkinds_c l hl 1 _) ?_
    (refine Runs.of_step Orc.nothing 300 ?_; simp -implicitDefEqProofs only [BB,seval,← decide_not,okind,vpre,vpure,intBin,intPre,strBin,strPre,popTo,argSlots,fldV,fldAV,subCells,idxVV,idxAAV,idxSV,sliceV,sliceSV,boundV,szIs,storeOp,storeS,setRowV,eff,extV,buildV,splice,eqSV,fitsL,eqCells,eqCell,minmaxV,capV,binBV,nilCheckV,bytesV,V.cells,V.stays,Orc.nothing,h0,k1])
    refine Runs.pcall rfl rfl rfl (rkinds_c l hl 2 _) ?_
    (refine Runs.of_step Orc.nothing 300 ?_; simp -implicitDefEqProofs only [BB,seval,← decide_not,okind,vpre,vpure,intBin,intPre,strBin,strPre,popTo,argSlots,fldV,fldAV,subCells,idxVV,idxAAV,idxSV,sliceV,sliceSV,boundV,szIs,storeOp,storeS,setRowV,eff,extV,buildV,splice,eqSV,fitsL,eqCells,eqCell,minmaxV,capV,binBV,nilCheckV,bytesV,V.cells,V.stays,Orc.nothing,h0,k2])
    refine Runs.pcall rfl rfl rfl (rkinds_c l hl 3 _) ?_
    (refine Runs.of_step Orc.nothing 300 ?_; simp -implicitDefEqProofs only [BB,seval,← decide_not,okind,vpre,vpure,intBin,intPre,strBin,strPre,popTo,argSlots,fldV,fldAV,subCells,idxVV,idxAAV,idxSV,sliceV,sliceSV,boundV,szIs,storeOp,storeS,setRowV,eff,extV,buildV,splice,eqSV,fitsL,eqCells,eqCell,minmaxV,capV,binBV,nilCheckV,bytesV,V.cells,V.stays,Orc.nothing,h0,k3])
    have f1 := flat_le (·.fs) (l := l) (fun q hq => (hS.2 q hq).2.1)
    have f2 := flat_le (·.ls) (l := l) (fun q hq => (hS.2 q hq).2.2)
    have ox : OutV σ' σ2 89 7 x ((l.flatMap (·.fs)).map encF) := ox
    have oy : OutV σ2 σ3 89 7 y ((l.flatMap (·.ls)).map encF) := oy
    have s2 : SubStore σ' σ2 := s2
    have s3 : SubStore σ2 σ3 := s3
    have ox3 := ox.mono s3
    have w1 : WkL σ3 nost [x, encFs (l.flatMap (·.fs))] [encFs (l.flatMap (·.fs)), encFs (l.flatMap (·.fs))] := by simp only [WkL]; exact ⟨ox3.wk (nost_sub _) (nost_sub _), Wk.refl (nost_sub _) _, trivial⟩
    have w2 : WkL σ3 nost [y, encFs (l.flatMap (·.ls))] [encFs (l.flatMap (·.ls)), encFs (l.flatMap (·.ls))] := by simp only [WkL]; exact ⟨oy.wk (nost_sub _) (nost_sub _), Wk.refl (nost_sub _) _, trivial⟩
    refine Runs.pcall rfl rfl rfl (ratoms_c l hS _) ?_
    (refine Runs.of_step Orc.nothing 300 ?_; simp -implicitDefEqProofs only [BB,seval,← decide_not,okind,vpre,vpure,intBin,intPre,strBin,strPre,popTo,argSlots,fldV,fldAV,subCells,idxVV,idxAAV,idxSV,sliceV,sliceSV,boundV,szIs,storeOp,storeS,setRowV,eff,extV,buildV,splice,eqSV,fitsL,eqCells,eqCell,minmaxV,capV,binBV,nilCheckV,bytesV,V.cells,V.stays,Orc.nothing,h0])
    refine Runs.pcall rfl rfl rfl (PFun.borrow w1 (frags_c _ (by omega)) rfl) ?_
    (refine Runs.of_step Orc.nothing 300 ?_; simp -implicitDefEqProofs only [BB,seval,← decide_not,okind,vpre,vpure,intBin,intPre,strBin,strPre,popTo,argSlots,fldV,fldAV,subCells,idxVV,idxAAV,idxSV,sliceV,sliceSV,boundV,szIs,storeOp,storeS,setRowV,eff,extV,buildV,splice,eqSV,fitsL,eqCells,eqCell,minmaxV,capV,binBV,nilCheckV,bytesV,V.cells,V.stays,Orc.nothing,h0])
    refine Runs.pcall rfl rfl rfl (rfloats_c l hS _) ?_
    (refine Runs.of_step Orc.nothing 300 ?_; simp -implicitDefEqProofs only [BB,seval,← decide_not,okind,vpre,vpure,intBin,intPre,strBin,strPre,popTo,argSlots,fldV,fldAV,subCells,idxVV,idxAAV,idxSV,sliceV,sliceSV,boundV,szIs,storeOp,storeS,setRowV,eff,extV,buildV,splice,eqSV,fitsL,eqCells,eqCell,minmaxV,capV,binBV,nilCheckV,bytesV,V.cells,V.stays,Orc.nothing,h0])
    refine Runs.pcall rfl rfl rfl (PFun.borrow w2 (frags_c _ (by omega)) rfl) ?_
    (refine Runs.of_step Orc.nothing 300 ?_; simp -implicitDefEqProofs only [BB,seval,← decide_not,okind,vpre,vpure,intBin,intPre,strBin,strPre,popTo,argSlots,fldV,fldAV,subCells,idxVV,idxAAV,idxSV,sliceV,sliceSV,boundV,szIs,storeOp,storeS,setRowV,eff,extV,buildV,splice,eqSV,fitsL,eqCells,eqCell,minmaxV,capV,binBV,nilCheckV,bytesV,V.cells,V.stays,Orc.nothing,h0])
    have sx : SubStore σ' σ3 := s2.trans s3
    rcases ox with ⟨rfl, ex⟩ | ⟨ix, rfl, hx, kx⟩
    · refine Runs.clearN rfl rfl rfl ?_
      (refine Runs.of_step Orc.nothing 300 ?_; simp -implicitDefEqProofs only [BB,seval,← decide_not,okind,vpre,vpure,intBin,intPre,strBin,strPre,popTo,argSlots,fldV,fldAV,subCells,idxVV,idxAAV,idxSV,sliceV,sliceSV,boundV,szIs,storeOp,storeS,setRowV,eff,extV,buildV,splice,eqSV,fitsL,eqCells,eqCell,minmaxV,capV,binBV,nilCheckV,bytesV,V.cells,V.stays,Orc.nothing,h0])
      rcases oy with ⟨rfl, ey⟩ | ⟨iy, rfl, hy, ky⟩
      · refine Runs.clearN rfl rfl rfl ?_
        (refine Runs.of_step Orc.nothing 300 ?_; simp -implicitDefEqProofs only [BB,seval,← decide_not,okind,vpre,vpure,intBin,intPre,strBin,strPre,popTo,argSlots,fldV,fldAV,subCells,idxVV,idxAAV,idxSV,sliceV,sliceSV,boundV,szIs,storeOp,storeS,setRowV,eff,extV,buildV,splice,eqSV,fitsL,eqCells,eqCell,minmaxV,capV,binBV,nilCheckV,bytesV,V.cells,V.stays,Orc.nothing,h0])
        refine Runs.pcall rfl rfl rfl (pgs_same l hS _) ?_
        (refine Runs.of_step Orc.nothing 300 ?_; simp -implicitDefEqProofs only [BB,seval,← decide_not,okind,vpre,vpure,intBin,intPre,strBin,strPre,popTo,argSlots,fldV,fldAV,subCells,idxVV,idxAAV,idxSV,sliceV,sliceSV,boundV,szIs,storeOp,storeS,setRowV,eff,extV,buildV,splice,eqSV,fitsL,eqCells,eqCell,minmaxV,capV,binBV,nilCheckV,bytesV,V.cells,V.stays,Orc.nothing,h0])
        refine Runs.pcall rfl rfl rfl (hw _) ?_
        (refine Runs.of_step Orc.nothing 300 ?_; simp -implicitDefEqProofs only [BB,seval,← decide_not,okind,vpre,vpure,intBin,intPre,strBin,strPre,popTo,argSlots,fldV,fldAV,subCells,idxVV,idxAAV,idxSV,sliceV,sliceSV,boundV,szIs,storeOp,storeS,setRowV,eff,extV,buildV,splice,eqSV,fitsL,eqCells,eqCell,minmaxV,capV,binBV,nilCheckV,bytesV,V.cells,V.stays,Orc.nothing])
        exact RetV.pure sx rfl
      · refine Runs.clear rfl rfl rfl hy rfl (by simp) ?_
        (refine Runs.of_step Orc.nothing 300 ?_; simp -implicitDefEqProofs only [BB,seval,← decide_not,okind,vpre,vpure,intBin,intPre,strBin,strPre,popTo,argSlots,fldV,fldAV,subCells,idxVV,idxAAV,idxSV,sliceV,sliceSV,boundV,szIs,storeOp,storeS,setRowV,eff,extV,buildV,splice,eqSV,fitsL,eqCells,eqCell,minmaxV,capV,binBV,nilCheckV,bytesV,V.cells,V.stays,Orc.nothing,h0])
        refine Runs.pcall rfl rfl rfl (pgs_same l hS _) ?_
        (refine Runs.of_step Orc.nothing 300 ?_; simp -implicitDefEqProofs only [BB,seval,← decide_not,okind,vpre,vpure,intBin,intPre,strBin,strPre,popTo,argSlots,fldV,fldAV,subCells,idxVV,idxAAV,idxSV,sliceV,sliceSV,boundV,szIs,storeOp,storeS,setRowV,eff,extV,buildV,splice,eqSV,fitsL,eqCells,eqCell,minmaxV,capV,binBV,nilCheckV,bytesV,V.cells,V.stays,Orc.nothing,h0])
        refine Runs.pcall rfl rfl rfl (hw _) ?_
        (refine Runs.of_step Orc.nothing 300 ?_; simp -implicitDefEqProofs only [BB,seval,← decide_not,okind,vpre,vpure,intBin,intPre,strBin,strPre,popTo,argSlots,fldV,fldAV,subCells,idxVV,idxAAV,idxSV,sliceV,sliceSV,boundV,szIs,storeOp,storeS,setRowV,eff,extV,buildV,splice,eqSV,fitsL,eqCells,eqCell,minmaxV,capV,binBV,nilCheckV,bytesV,V.cells,V.stays,Orc.nothing])
        exact RetV.pure (sx.updK (s2.none ky)) rfl
    · refine Runs.clear rfl rfl rfl (s3 _ _ hx) rfl (by simp) ?_
      (refine Runs.of_step Orc.nothing 300 ?_; simp -implicitDefEqProofs only [BB,seval,← decide_not,okind,vpre,vpure,intBin,intPre,strBin,strPre,popTo,argSlots,fldV,fldAV,subCells,idxVV,idxAAV,idxSV,sliceV,sliceSV,boundV,szIs,storeOp,storeS,setRowV,eff,extV,buildV,splice,eqSV,fitsL,eqCells,eqCell,minmaxV,capV,binBV,nilCheckV,bytesV,V.cells,V.stays,Orc.nothing,h0])
      rcases oy with ⟨rfl, ey⟩ | ⟨iy, rfl, hy, ky⟩
      · refine Runs.clearN rfl rfl rfl ?_
        (refine Runs.of_step Orc.nothing 300 ?_; simp -implicitDefEqProofs only [BB,seval,← decide_not,okind,vpre,vpure,intBin,intPre,strBin,strPre,popTo,argSlots,fldV,fldAV,subCells,idxVV,idxAAV,idxSV,sliceV,sliceSV,boundV,szIs,storeOp,storeS,setRowV,eff,extV,buildV,splice,eqSV,fitsL,eqCells,eqCell,minmaxV,capV,binBV,nilCheckV,bytesV,V.cells,V.stays,Orc.nothing,h0])
        refine Runs.pcall rfl rfl rfl (pgs_same l hS _) ?_
        (refine Runs.of_step Orc.nothing 300 ?_; simp -implicitDefEqProofs only [BB,seval,← decide_not,okind,vpre,vpure,intBin,intPre,strBin,strPre,popTo,argSlots,fldV,fldAV,subCells,idxVV,idxAAV,idxSV,sliceV,sliceSV,boundV,szIs,storeOp,storeS,setRowV,eff,extV,buildV,splice,eqSV,fitsL,eqCells,eqCell,minmaxV,capV,binBV,nilCheckV,bytesV,V.cells,V.stays,Orc.nothing,h0])
        refine Runs.pcall rfl rfl rfl (hw _) ?_
        (refine Runs.of_step Orc.nothing 300 ?_; simp -implicitDefEqProofs only [BB,seval,← decide_not,okind,vpre,vpure,intBin,intPre,strBin,strPre,popTo,argSlots,fldV,fldAV,subCells,idxVV,idxAAV,idxSV,sliceV,sliceSV,boundV,szIs,storeOp,storeS,setRowV,eff,extV,buildV,splice,eqSV,fitsL,eqCells,eqCell,minmaxV,capV,binBV,nilCheckV,bytesV,V.cells,V.stays,Orc.nothing])
        exact RetV.pure (sx.updK kx) rfl
      · have hne : iy ≠ ix := (ne_new hx ky).symm
        refine Runs.clear rfl rfl rfl ((upd_ne hne).trans hy) rfl (by simp) ?_
        (refine Runs.of_step Orc.nothing 300 ?_; simp -implicitDefEqProofs only [BB,seval,← decide_not,okind,vpre,vpure,intBin,intPre,strBin,strPre,popTo,argSlots,fldV,fldAV,subCells,idxVV,idxAAV,idxSV,sliceV,sliceSV,boundV,szIs,storeOp,storeS,setRowV,eff,extV,buildV,splice,eqSV,fitsL,eqCells,eqCell,minmaxV,capV,binBV,nilCheckV,bytesV,V.cells,V.stays,Orc.nothing,h0])
        refine Runs.pcall rfl rfl rfl (pgs_same l hS _) ?_
        (refine Runs.of_step Orc.nothing 300 ?_; simp -implicitDefEqProofs only [BB,seval,← decide_not,okind,vpre,vpure,intBin,intPre,strBin,strPre,popTo,argSlots,fldV,fldAV,subCells,idxVV,idxAAV,idxSV,sliceV,sliceSV,boundV,szIs,storeOp,storeS,setRowV,eff,extV,buildV,splice,eqSV,fitsL,eqCells,eqCell,minmaxV,capV,binBV,nilCheckV,bytesV,V.cells,V.stays,Orc.nothing,h0])
        refine Runs.pcall rfl rfl rfl (hw _) ?_
        (refine Runs.of_step Orc.nothing 300 ?_; simp -implicitDefEqProofs only [BB,seval,← decide_not,okind,vpre,vpure,intBin,intPre,strBin,strPre,popTo,argSlots,fldV,fldAV,subCells,idxVV,idxAAV,idxSV,sliceV,sliceSV,boundV,szIs,storeOp,storeS,setRowV,eff,extV,buildV,splice,eqSV,fitsL,eqCells,eqCell,minmaxV,capV,binBV,nilCheckV,bytesV,V.cells,V.stays,Orc.nothing])
        exact RetV.pure ((sx.updK kx).updK (s2.none ky)) rfl
end Go.Vc
namespace Go.Vc
inductive Tr (α : Type) where
  | e
  | n (l : Tr α) (v : α) (r : Tr α)
def pathF : Nat → Nat → List Bool
  | 0, _ => []
  | _ + 1, 0 => []
  | f + 1, k + 1 => Nat.beq (Nat.mod k 2) 0 :: pathF f (Nat.div k 2)
def pathOf (k : Nat) : List Bool := pathF (Nat.succ k) k
def getN {α : Type} (d : α) (f : Nat) : List Bool → Tr α → α :=
  @Nat.rec (fun _ => List Bool → Tr α → α) (fun _ _ => d)
    (fun _ ih p t => @List.casesOn Bool (fun _ => α) p (@Tr.casesOn α (fun _ => α) t d (fun _ v _ => v))
      (fun b p' => @Tr.casesOn α (fun _ => α) t d (fun l _ r => ih p' (@Bool.casesOn (fun _ => Tr α) b r l)))) f
def getP {α : Type} (d : α) (k : Nat) (t : Tr α) : α := getN d (Nat.succ k) (pathOf k) t
def setN {α : Type} (d v : α) (f : Nat) : List Bool → Tr α → Tr α :=
  @Nat.rec (fun _ => List Bool → Tr α → Tr α) (fun _ t => t)
    (fun _ ih p t => @List.casesOn Bool (fun _ => Tr α) p (@Tr.casesOn α (fun _ => Tr α) t (.n .e v .e) (fun l _ r => .n l v r))
      (fun b p' => @Tr.casesOn α (fun _ => Tr α) t (@Bool.casesOn (fun _ => Tr α) b (.n .e d (ih p' .e)) (.n (ih p' .e) d .e))
        (fun l u r => @Bool.casesOn (fun _ => Tr α) b (.n l u (ih p' r)) (.n (ih p' l) u r)))) f
def setP {α : Type} (d v : α) (k : Nat) (t : Tr α) : Tr α := setN d v (Nat.succ k) (pathOf k) t
structure CS where
  s : Tr V
  σ : Tr (Option Ob)
  nxt : Nat
def CS.sf (cs : CS) : Nat → V := fun i => getP (.tup []) i cs.s
def stF (σ : Tr (Option Ob)) : Store := fun i => getP none i σ
def setS (cs : CS) (d : Nat) (v : V) : CS := ⟨setP (.tup []) v d cs.s, cs.σ, cs.nxt⟩
def CS.put (cs : CS) (d : Option Nat) (v : V) : CS := @Option.casesOn Nat (fun _ => CS) d cs (fun d => setS cs d v)
def eqQ : Int → Int → Bool
  | .ofNat m, .ofNat n => Nat.beq m n
  | .negSucc m, .negSucc n => Nat.beq m n
  | _, _ => false
def leQ : Int → Int → Bool
  | .ofNat m, .ofNat n => Nat.ble m n
  | .negSucc _, .ofNat _ => true
  | .negSucc m, .negSucc n => Nat.ble n m
  | .ofNat _, .negSucc _ => false
def addQ : Int → Int → Int
  | .ofNat m, .ofNat n => .ofNat (Nat.add m n)
  | a, b => a + b
def subQ : Int → Int → Int
  | .ofNat m, .ofNat n => @Bool.casesOn (fun _ => Int) (Nat.ble n m) (.negSucc (Nat.sub (Nat.sub n m) 1)) (.ofNat (Nat.sub m n))
  | a, b => a - b
def in64 : Int → Bool
  | .ofNat m => Nat.ble m 9223372036854775807
  | .negSucc m => Nat.ble m 9223372036854775807
def inRB (k : IntKind) (n : Int) : Bool := match k with
  | .i64 => in64 n
  | k => decide (k.wrap n = n)
def gI (k : IntKind) (n : Int) : Option V := @Bool.casesOn (fun _ => Option V) (inRB k n) none (some (.int k n))
def eqK (k k' : IntKind) : Bool := decide (k = k')
def is64 : IntKind → Bool
  | .i64 => true
  | _ => false
structure FI where
  f : IntKind → Int → Int → Option V
def intBinQ (op : BinOp) : FI :=
  match op with
  | .add => ⟨fun k a b => gI k (addQ a b)⟩
  | .sub => ⟨fun k a b => gI k (subQ a b)⟩
  | .mul => ⟨fun k a b => gI k (a * b)⟩
  | .quo => ⟨fun k a b => if b = 0 then none else gI k (a.tdiv b)⟩
  | .rem => ⟨fun k a b => if b = 0 then none else some (.int k (a.tmod b))⟩
  | .eql => ⟨fun _ a b => some (.bool (eqQ a b))⟩
  | .neq => ⟨fun _ a b => some (.bool (not (eqQ a b)))⟩
  | .lss => ⟨fun _ a b => some (.bool (not (leQ b a)))⟩
  | .leq => ⟨fun _ a b => some (.bool (leQ a b))⟩
  | .gtr => ⟨fun _ a b => some (.bool (not (leQ a b)))⟩
  | .geq => ⟨fun _ a b => some (.bool (leQ b a))⟩
  | .and => ⟨fun k a b => intBin .and k a b⟩
  | .or => ⟨fun k a b => intBin .or k a b⟩
  | .shl => ⟨fun k a b => intBin .shl k a b⟩
  | .shr => ⟨fun k a b => intBin .shr k a b⟩
  | _ => ⟨fun _ _ _ => none⟩
def strBinQ (op : BinOp) (a b : List UInt8) : Option V :=
  match op with
  | .add => @Bool.casesOn (fun _ => Option V) (Nat.ble (a.length + b.length) 9223372036854775807) none (some (.str (a ++ b)))
  | .eql => some (.bool (decide (a = b)))
  | .neq => some (.bool (decide (a ≠ b)))
  | _ => none
def sameK (k k' : IntKind) : Bool := @Bool.casesOn (fun _ => Bool) (is64 k) (eqK k k') (is64 k')
def binI (k : IntKind) (a : Int) (g : IntKind → Int → Int → Option V) : V → Option V
  | .int k' b => @Bool.casesOn (fun _ => Option V) (sameK k k') none (g k a b)
  | _ => none
def binS (op : BinOp) (a : List UInt8) : V → Option V
  | .str b => strBinQ op a b
  | _ => none
def binQ (op : BinOp) (g : IntKind → Int → Int → Option V) (y : V) : V → Option V
  | .int k a => binI k a g y
  | .str a => binS op a y
  | _ => none
def negQ : V → Option V
  | .int k a => gI k (0 - a)
  | _ => none
def convQ (k : IntKind) : V → Option V
  | .int _ a => gI k a
  | _ => none
def notQ : V → Option V
  | .bool b => some (.bool (!b))
  | _ => none
def pickQ (a b : V) : V → Option V
  | .bool t => some (@Bool.casesOn (fun _ => V) t b a)
  | _ => none
def natQ : Int → Option Nat
  | .ofNat m => some m
  | _ => none
def idxQ (σ : Tr (Option Ob)) (esz : Nat) (x i : V) : Option V :=
  match x, i with
  | .own id off len, .int _ j => match natQ j with
    | some m => match getP none id σ with
      | some ob => @Bool.casesOn (fun _ => Option V) (Nat.beq ob.sz esz && Nat.blt m len) none (some (.ptr id (Nat.add off m) 0))
      | none => none
    | none => none
  | .sl sz rows, .int _ j => match natQ j with
    | some m => @Bool.casesOn (fun _ => Option V) (Nat.beq sz esz) none (match rows[m]? with
      | some r => some (.rp r)
      | none => none)
    | none => none
  | _, _ => none
def loadQ (σ : Tr (Option Ob)) (agg : Bool) (sz : Nat) (x : V) : Option V :=
  match x with
  | .ptr id i k => match getP none id σ with
    | some ob => match ob.rows[i]? with
      | some r => match agg with
        | true => @Bool.casesOn (fun _ => Option V) (Nat.beq k 0 && Nat.beq r.cells.length sz)
            (@Bool.casesOn (fun _ => Option V) (Nat.ble (Nat.add k sz) r.cells.length) none (some (.agg ((r.cells.drop k).take sz)))) (some (.agg r.cells))
        | false => r.cells[k]?
      | none => none
    | none => none
  | x => loadV (stF σ) agg sz x
def idxSQ : V → V → Option V
  | .str s, .int _ j => match natQ j with
    | some m => match s[m]? with
      | some b => some (.int .u8 (Int.ofNat b.toNat))
      | none => none
    | none => none
  | _, _ => none
structure Mk where
  var : Bool
  len : Nat
  gone : Option Nat
  ob : Ob
def boxQ (e sz : Nat) (x : V) : Option Mk := @Bool.casesOn (fun _ => Option Mk) (Nat.beq x.cells.length sz && x.stays) none (some ⟨true, 0, none, ⟨e, sz, [x]⟩⟩)
def bsliceQ (e sz : Nat) (xs : List V) : Option Mk := @Bool.casesOn (fun _ => Option Mk) (xs.all fun x => Nat.beq x.cells.length sz && x.stays) none (some ⟨false, xs.length, none, ⟨e, sz, xs⟩⟩)
def mkQ (e sz bytes : Nat) (z : V) : V → Option Mk
  | .int k m => match k with
    | .i64 => match natQ m with
      | some j => @Bool.casesOn (fun _ => Option Mk) (Nat.ble (j * (bytes + 1)) 140737488355328) none (some ⟨false, j, none, ⟨e, sz, List.replicate j z⟩⟩)
      | none => none
    | _ => none
  | _ => none
def appendQ (σ : Tr (Option Ob)) (e sz bytes : Nat) (a b : V) : Option Mk := match dstRows (stF σ) e sz a, srcRows (stF σ) sz b with
  | some (base, idA), some src => @Bool.casesOn (fun _ => Option Mk) (Nat.ble ((base.length + src.length) * (bytes + 1)) 140737488355328) none (some ⟨false, base.length + src.length, idA, ⟨e, sz, base ++ src⟩⟩)
  | _, _ => none
def addRow (fl : Nat) (dst : Option Nat) (cs : CS) (m : Mk) : Option CS :=
  match m.gone with
  | none => some (CS.put ⟨cs.s, setP none (some m.ob) cs.nxt cs.σ, Nat.succ cs.nxt⟩ dst (@Bool.casesOn (fun _ => V) m.var (.own cs.nxt 0 m.len) (.ptr cs.nxt 0 0)))
  | some d => @Bool.casesOn (fun _ => Option CS) (Nat.ble fl d) none
      (some (CS.put ⟨cs.s, setP none (some m.ob) cs.nxt (setP none none d cs.σ), Nat.succ cs.nxt⟩ dst (@Bool.casesOn (fun _ => V) m.var (.own cs.nxt 0 m.len) (.ptr cs.nxt 0 0))))
inductive Out where
  | nx (cs : CS)
  | ex (id : Nat) (cs : CS)
  | rt (cs : CS)
  | bad
structure Rs where
  v : V
  σ : Tr (Option Ob)
  nxt : Nat
def CallT := FuncId → List V → Tr (Option Ob) → Nat → Nat → Option Rs
structure BI where
  f : CallT → Nat → CS → Option CS
def pureB (dst : Option Nat) (g : CS → Option V) : BI := ⟨fun _ _ cs => match g cs with
  | some v => some (cs.put dst v)
  | none => none⟩
def movB (dst : Option Nat) (x : VX) : BI := ⟨fun _ _ cs => some (cs.put dst (x.ev cs.sf))⟩
def rowB (dst : Option Nat) (g : CS → Option Mk) : BI := ⟨fun _ fl cs => match g cs with
  | some m => addRow fl dst cs m
  | none => none⟩
def callIn (dst : Option Nat) (cs : CS) : Option Rs → Option CS
  | some r => some (CS.put ⟨cs.s, r.σ, r.nxt⟩ dst r.v)
  | none => none
def callInD (dst : Option Nat) (cs : CS) : Option Rs → Option CS
  | some r => @Bool.casesOn (fun _ => Option CS) r.v.noid none (some (cs.put dst r.v))
  | none => none
def callB (draw : Bool) (dst : Option Nat) (fx : VX) (xs : List VX) : BI := match draw with
  | true => ⟨fun call _ cs => match fx.ev cs.sf with
    | .fn f caps => callInD dst cs (call f (xs.map (·.ev cs.sf) ++ caps) cs.σ cs.nxt cs.nxt)
    | _ => none⟩
  | false => ⟨fun call fl cs => match fx.ev cs.sf with
    | .fn f caps => callIn dst cs (call f (xs.map (·.ev cs.sf) ++ caps) cs.σ cs.nxt fl)
    | _ => none⟩
def storeIn (dst : Option Nat) (fl sz : Nat) (xv : V) (cs : CS) : V → Option CS
  | .ptr id i0 c => @Bool.casesOn (fun _ => Option CS) (Nat.ble fl id) none (match getP none id cs.σ with
    | some ob => match ob.rows[i0]? with
      | some r => match setRowV r c sz xv with
        | some r' => some (CS.put ⟨cs.s, setP none (some ⟨ob.elem, ob.sz, ob.rows.set i0 r'⟩) id cs.σ, cs.nxt⟩ dst (.tup []))
        | none => none
      | none => none
    | none => none)
  | _ => none
def storeB (dst : Option Nat) (sz : Nat) (xa xv : VX) : BI := ⟨fun _ fl cs => storeIn dst fl sz (xv.ev cs.sf) cs (xa.ev cs.sf)⟩
def clearIn (dst : Option Nat) (fl sz : Nat) (z : V) (cs : CS) : V → Option CS
  | .own id off len => @Bool.casesOn (fun _ => Option CS) (Nat.ble fl id) none (match getP none id cs.σ with
    | some ob => @Bool.casesOn (fun _ => Option CS) (Nat.beq ob.sz sz && Nat.ble (off + len) ob.rows.length) none
        (some (CS.put ⟨cs.s, setP none (some ⟨ob.elem, ob.sz, ob.rows.take off ++ List.replicate len z ++ ob.rows.drop (off + len)⟩) id cs.σ, cs.nxt⟩ dst (.tup [])))
    | none => none)
  | _ => none
def clearB (draw : Bool) (dst : Option Nat) (sz : Nat) (z : V) (xv : VX) : BI := match draw with
  | true => ⟨fun _ _ _ => none⟩
  | false => ⟨fun _ fl cs => clearIn dst fl sz z cs (xv.ev cs.sf)⟩
def compO (draw : Bool) (dst : Option Nat) (op : VOp) : BI := match op with
  | .mov x => movB dst x
  | .pick c a b => pureB dst fun cs => pickQ (a.ev cs.sf) (b.ev cs.sf) (c.ev cs.sf)
  | .bin op x y => @FI.casesOn (fun _ => BI) (intBinQ op) fun g => pureB dst fun cs => binQ op g (y.ev cs.sf) (x.ev cs.sf)
  | .not x => pureB dst fun cs => notQ (x.ev cs.sf)
  | .neg x => pureB dst fun cs => negQ (x.ev cs.sf)
  | .convI k x => pureB dst fun cs => convQ k (x.ev cs.sf)
  | .idxA esz x i => pureB dst fun cs => idxQ cs.σ esz (x.ev cs.sf) (i.ev cs.sf)
  | .idxS x i => pureB dst fun cs => idxSQ (x.ev cs.sf) (i.ev cs.sf)
  | .load agg sz x => pureB dst fun cs => loadQ cs.σ agg sz (x.ev cs.sf)
  | .box e sz x => rowB dst fun cs => boxQ e sz (x.ev cs.sf)
  | .alloc e sz z => rowB dst fun _ => some ⟨true, 0, none, ⟨e, sz, [z]⟩⟩
  | .bslice e sz xs => rowB dst fun cs => bsliceQ e sz (xs.map (·.ev cs.sf))
  | .mk e sz bytes z x => rowB dst fun cs => mkQ e sz bytes z (x.ev cs.sf)
  | .append e sz bytes a b => rowB dst fun cs => appendQ cs.σ e sz bytes (a.ev cs.sf) (b.ev cs.sf)
  | .call f xs => callB draw dst f xs
  | .store sz a x => storeB dst sz a x
  | .clear sz z x => clearB draw dst sz z x
  | op => pureB dst fun cs => vpure (stF cs.σ) cs.sf op
def guardB (dst : Option Nat) (b : Bool) (B : BI) (call : CallT) (fl : Nat) (cs : CS) : V → Option CS
  | .bool c => @Bool.casesOn (fun _ => Option CS) (Bool.xor c b) (B.f call fl cs) (some (cs.put dst (.tup [])))
  | .tup [] => some (cs.put dst (.tup []))
  | .int _ _ => some (cs.put dst (.tup []))
  | _ => none
def compI (draw : Bool) (i : VIns) : BI := match i.g with
  | none => compO draw i.dst i.op
  | some (x, b) => ⟨fun call fl cs => guardB i.dst b (compO draw i.dst i.op) call fl cs (x.ev cs.sf)⟩
def Tr.ofL : List V → Nat → Tr V → Tr V
  | [], _, t => t
  | v :: l, k, t => Tr.ofL l (Nat.succ k) (setP (.tup []) v k t)
def resQ (res : List VR) (cs : CS) : Option Rs := match resV ⟨cs.sf, stF cs.σ⟩ res with
  | some v => some ⟨v, cs.σ, cs.nxt⟩
  | none => none
def outQ (res : List VR) : Out → Option Rs
  | .nx cs => resQ res cs
  | .rt cs => resQ res cs
  | _ => none
def onNx (o : Out) (k : CS → Out) : Out := @Out.casesOn (fun _ => Out) o k (fun id cs => .ex id cs) (fun cs => .rt cs) .bad
def onEx (id : Nat) (o : Out) : Out := @Out.casesOn (fun _ => Out) o (fun cs => .nx cs) (fun j cs => @Bool.casesOn (fun _ => Out) (Nat.beq j id) (.ex j cs) (.nx cs)) (fun cs => .rt cs) .bad
def onB (v : V) (a b : Out) : Out := match v with
  | .bool c => @Bool.casesOn (fun _ => Out) c b a
  | _ => .bad
end Go.Vc
namespace Go.Vc
def gL {α : Type} (d : α) : List Bool → Tr α → α
  | _, .e => d
  | [], .n _ v _ => v
  | b :: p, .n l _ r => gL d p (if b then l else r)
def sL {α : Type} (d v : α) : List Bool → Tr α → Tr α
  | [], .e => .n .e v .e
  | [], .n l _ r => .n l v r
  | b :: p, .e => if b then .n (sL d v p .e) d .e else .n .e d (sL d v p .e)
  | b :: p, .n l u r => if b then .n (sL d v p l) u r else .n l u (sL d v p r)
theorem getN_eq {α : Type} (d : α) : ∀ (f : Nat) (p : List Bool) (t : Tr α), p.length < f → getN d f p t = gL d p t
  | 0, _, _, h => by omega
  | f + 1, [], t, _ => by cases t <;> rfl
  | f + 1, b :: p, t, h => by
    cases t with
    | e => rfl
    | n l u r =>
      have ih := getN_eq d f p (if b then l else r) (by simpa using h)
      cases b <;> exact ih
theorem setN_eq {α : Type} (d v : α) : ∀ (f : Nat) (p : List Bool) (t : Tr α), p.length < f → setN d v f p t = sL d v p t
  | 0, _, _, h => by omega
  | f + 1, [], t, _ => by cases t <;> rfl
  | f + 1, b :: p, t, h => by
    have h' : p.length < f := by simpa using h
    cases t with
    | e => cases b <;> simp only [sL, Bool.false_eq_true, if_false, if_true] <;> rw [← setN_eq d v f p _ h'] <;> rfl
    | n l u r => cases b <;> simp only [sL, Bool.false_eq_true, if_false, if_true] <;> rw [← setN_eq d v f p _ h'] <;> rfl
theorem gL_e {α : Type} (d : α) (p : List Bool) : gL d p .e = d := by cases p <;> rfl
theorem gL_sL {α : Type} (d v : α) : ∀ (p q : List Bool) (t : Tr α), gL d q (sL d v p t) = if q = p then v else gL d q t
  | [], [], t => by cases t <;> simp [sL, gL]
  | [], b :: q, t => by cases t <;> simp [sL, gL, gL_e]
  | a :: p, [], t => by cases t <;> cases a <;> simp [sL, gL]
  | a :: p, b :: q, t => by
    cases t with
    | e =>
      have ih := gL_sL d v p q .e
      cases a <;> cases b <;> simp [sL, gL, gL_e, ih]
    | n l u r =>
      have ihl := gL_sL d v p q l
      have ihr := gL_sL d v p q r
      cases a <;> cases b <;> simp [sL, gL, ihl, ihr]
def pval : List Bool → Nat
  | [] => 0
  | b :: p => 2 * pval p + (if b then 1 else 2)
theorem pval_path : ∀ (f k : Nat), k < f → pval (pathF f k) = k
  | 0, _, h => by omega
  | f + 1, 0, _ => rfl
  | f + 1, k + 1, h => by
    have ih := pval_path f (k / 2) (by omega)
    have ih' : pval (pathF f (k.div 2)) = k / 2 := ih
    simp only [pathF, pval, ih']
    have h1 : Nat.mod k 2 = k % 2 := rfl
    by_cases hk : k % 2 = 0
    · have : Nat.beq (Nat.mod k 2) 0 = true := by rw [h1, hk]; rfl
      simp only [this, if_true]; omega
    · have hk1 : k % 2 = 1 := by omega
      have : Nat.beq (Nat.mod k 2) 0 = false := by rw [h1, hk1]; rfl
      simp only [this, Bool.false_eq_true, if_false]; omega
theorem plen : ∀ p : List Bool, p.length ≤ pval p
  | [] => Nat.le_refl _
  | b :: p => by have := plen p; simp only [List.length_cons, pval]; split <;> omega
theorem pathOf_len (k : Nat) : (pathOf k).length < k.succ := by
  have h1 := plen (pathOf k)
  have h2 : pval (pathOf k) = k := pval_path (k + 1) k (by omega)
  omega
theorem pathOf_inj {i k : Nat} (h : pathOf i = pathOf k) : i = k := by
  have h1 : pval (pathOf i) = i := pval_path (i + 1) i (by omega)
  have h2 : pval (pathOf k) = k := pval_path (k + 1) k (by omega)
  rw [← h1, ← h2, h]
theorem getP_set {α : Type} (d v : α) (i k : Nat) (t : Tr α) : getP d i (setP d v k t) = if i = k then v else getP d i t := by
  unfold getP setP
  rw [getN_eq _ _ _ _ (pathOf_len i), getN_eq _ _ _ _ (pathOf_len i), setN_eq _ _ _ _ _ (pathOf_len k), gL_sL]
  by_cases h : i = k
  · simp [h]
  · rw [if_neg h, if_neg (fun e => h (pathOf_inj e))]
theorem getP_e {α : Type} (d : α) (i : Nat) : getP d i .e = d := by
  unfold getP
  rw [getN_eq _ _ _ _ (pathOf_len i), gL_e]
theorem sf_put (cs : CS) (d : Option Nat) (v : V) : (cs.put d v).sf = putO cs.sf d v := by
  funext i
  cases d with
  | none => rfl
  | some d => show getP _ i (setP _ v d cs.s) = _; rw [getP_set]; rfl
theorem put_σ (cs : CS) (d : Option Nat) (v : V) : (cs.put d v).σ = cs.σ ∧ (cs.put d v).nxt = cs.nxt := by cases d <;> exact ⟨rfl, rfl⟩
theorem stF_set (σ : Tr (Option Ob)) (k : Nat) (o : Ob) : stF (setP none (some o) k σ) = upd (stF σ) k o := by
  funext i; show getP none i _ = _; rw [getP_set]; rfl
theorem stF_del (σ : Tr (Option Ob)) (k : Nat) : stF (setP none none k σ) = del (stF σ) k := by
  funext i; show getP none i _ = _; rw [getP_set]; rfl
mutual
def VRel (R : Nat → Nat → Prop) : V → V → Prop
  | .own id off len, u => ∃ id', u = .own id' off len ∧ R id id'
  | .ptr id i k, u => ∃ id', u = .ptr id' i k ∧ R id id'
  | .sl sz rows, u => ∃ rows', u = .sl sz rows' ∧ VRelL R rows rows'
  | .rp v, u => ∃ v', u = .rp v' ∧ VRel R v v'
  | .fn f caps, u => ∃ caps', u = .fn f caps' ∧ VRelL R caps caps'
  | .bm f caps, u => ∃ caps', u = .bm f caps' ∧ VRelL R caps caps'
  | .iface t v, u => ∃ v', u = .iface t v' ∧ VRel R v v'
  | .agg c, u => ∃ c', u = .agg c' ∧ VRelL R c c'
  | .tup c, u => ∃ c', u = .tup c' ∧ VRelL R c c'
  | .undef, u => u = .undef
  | .int k n, u => u = .int k n
  | .bool b, u => u = .bool b
  | .str s, u => u = .str s
  | .nils, u => u = .nils
  | .nilp, u => u = .nilp
  | .nilfn, u => u = .nilfn
  | .niliface, u => u = .niliface
  | .raw v, u => u = .raw v
  | .obj v, u => u = .obj v
  | .gp v, u => u = .gp v
  | .yl v, u => ∃ id', u = .yl id' ∧ R v id'
  | .mp v, u => u = .mp v
def VRelL (R : Nat → Nat → Prop) : List V → List V → Prop
  | [], l => l = []
  | v :: vs, l => ∃ u us, l = u :: us ∧ VRel R v u ∧ VRelL R vs us
end
section
variable {R R' : Nat → Nat → Prop}
mutual
theorem VRel.mono (h : ∀ a b, R a b → R' a b) : ∀ (v u : V), VRel R v u → VRel R' v u
  | .own id off len, u, g => by simp only [VRel] at g ⊢; obtain ⟨i, e, r⟩ := g; exact ⟨i, e, h _ _ r⟩
  | .ptr id i k, u, g => by simp only [VRel] at g ⊢; obtain ⟨i, e, r⟩ := g; exact ⟨i, e, h _ _ r⟩
  | .sl sz rows, u, g => by simp only [VRel] at g ⊢; obtain ⟨i, e, r⟩ := g; exact ⟨i, e, VRelL.mono h _ _ r⟩
  | .rp v, u, g => by simp only [VRel] at g ⊢; obtain ⟨i, e, r⟩ := g; exact ⟨i, e, VRel.mono h _ _ r⟩
  | .fn f caps, u, g => by simp only [VRel] at g ⊢; obtain ⟨i, e, r⟩ := g; exact ⟨i, e, VRelL.mono h _ _ r⟩
  | .bm f caps, u, g => by simp only [VRel] at g ⊢; obtain ⟨i, e, r⟩ := g; exact ⟨i, e, VRelL.mono h _ _ r⟩
  | .iface t v, u, g => by simp only [VRel] at g ⊢; obtain ⟨i, e, r⟩ := g; exact ⟨i, e, VRel.mono h _ _ r⟩
  | .agg c, u, g => by simp only [VRel] at g ⊢; obtain ⟨i, e, r⟩ := g; exact ⟨i, e, VRelL.mono h _ _ r⟩
  | .tup c, u, g => by simp only [VRel] at g ⊢; obtain ⟨i, e, r⟩ := g; exact ⟨i, e, VRelL.mono h _ _ r⟩
  | .undef, u, g => by simpa [VRel] using g
  | .int k n, u, g => by simpa [VRel] using g
  | .bool b, u, g => by simpa [VRel] using g
  | .str s, u, g => by simpa [VRel] using g
  | .nils, u, g => by simpa [VRel] using g
  | .nilp, u, g => by simpa [VRel] using g
  | .nilfn, u, g => by simpa [VRel] using g
  | .niliface, u, g => by simpa [VRel] using g
  | .raw v, u, g => by simpa [VRel] using g
  | .obj v, u, g => by simpa [VRel] using g
  | .gp v, u, g => by simpa [VRel] using g
  | .yl v, u, g => by simp only [VRel] at g ⊢; obtain ⟨i, e, r⟩ := g; exact ⟨i, e, h _ _ r⟩
  | .mp v, u, g => by simpa [VRel] using g
theorem VRelL.mono (h : ∀ a b, R a b → R' a b) : ∀ (v u : List V), VRelL R v u → VRelL R' v u
  | [], u, g => by simpa [VRelL] using g
  | v :: vs, u, g => by
    simp only [VRelL] at g ⊢
    obtain ⟨a, as1, e, r, rs⟩ := g
    exact ⟨a, as1, e, VRel.mono h _ _ r, VRelL.mono h _ _ rs⟩
end
mutual
theorem noid_refl : ∀ (v : V), v.noid = true → VRel R v v
  | .own .., g => by simp [V.noid] at g
  | .ptr .., g => by simp [V.noid] at g
  | .sl sz rows, g => by simp only [V.noid] at g; simp only [VRel]; exact ⟨rows, rfl, noidL_refl rows g⟩
  | .rp v, g => by simp only [V.noid] at g; simp only [VRel]; exact ⟨v, rfl, noid_refl v g⟩
  | .fn f caps, g => by simp only [V.noid] at g; simp only [VRel]; exact ⟨caps, rfl, noidL_refl caps g⟩
  | .bm f caps, g => by simp only [V.noid] at g; simp only [VRel]; exact ⟨caps, rfl, noidL_refl caps g⟩
  | .iface t v, g => by simp only [V.noid] at g; simp only [VRel]; exact ⟨v, rfl, noid_refl v g⟩
  | .agg c, g => by simp only [V.noid] at g; simp only [VRel]; exact ⟨c, rfl, noidL_refl c g⟩
  | .tup c, g => by simp only [V.noid] at g; simp only [VRel]; exact ⟨c, rfl, noidL_refl c g⟩
  | .undef, _ => by simp [VRel]
  | .int k n, _ => by simp [VRel]
  | .bool b, _ => by simp [VRel]
  | .str s, _ => by simp [VRel]
  | .nils, _ => by simp [VRel]
  | .nilp, _ => by simp [VRel]
  | .nilfn, _ => by simp [VRel]
  | .niliface, _ => by simp [VRel]
  | .raw v, _ => by simp [VRel]
  | .obj v, _ => by simp [VRel]
  | .gp v, _ => by simp [VRel]
  | .yl v, g => by simp [V.noid] at g
  | .mp v, _ => by simp [VRel]
theorem noidL_refl : ∀ (l : List V), noidL l = true → VRelL R l l
  | [], _ => by simp [VRelL]
  | v :: vs, g => by
    simp only [noidL, Bool.and_eq_true] at g
    simp only [VRelL]
    exact ⟨v, vs, rfl, noid_refl v g.1, noidL_refl vs g.2⟩
end
mutual
theorem noid_eq : ∀ (v u : V), v.noid = true → VRel R v u → u = v
  | .own .., _, g, _ => by simp [V.noid] at g
  | .ptr .., _, g, _ => by simp [V.noid] at g
  | .sl sz rows, u, g, h => by simp only [V.noid] at g; simp only [VRel] at h; obtain ⟨r, rfl, h⟩ := h; rw [noidL_eq rows r g h]
  | .rp v, u, g, h => by simp only [V.noid] at g; simp only [VRel] at h; obtain ⟨r, rfl, h⟩ := h; rw [noid_eq v r g h]
  | .fn f caps, u, g, h => by simp only [V.noid] at g; simp only [VRel] at h; obtain ⟨r, rfl, h⟩ := h; rw [noidL_eq caps r g h]
  | .bm f caps, u, g, h => by simp only [V.noid] at g; simp only [VRel] at h; obtain ⟨r, rfl, h⟩ := h; rw [noidL_eq caps r g h]
  | .iface t v, u, g, h => by simp only [V.noid] at g; simp only [VRel] at h; obtain ⟨r, rfl, h⟩ := h; rw [noid_eq v r g h]
  | .agg c, u, g, h => by simp only [V.noid] at g; simp only [VRel] at h; obtain ⟨r, rfl, h⟩ := h; rw [noidL_eq c r g h]
  | .tup c, u, g, h => by simp only [V.noid] at g; simp only [VRel] at h; obtain ⟨r, rfl, h⟩ := h; rw [noidL_eq c r g h]
  | .undef, u, _, h => by simpa [VRel] using h
  | .int k n, u, _, h => by simpa [VRel] using h
  | .bool b, u, _, h => by simpa [VRel] using h
  | .str s, u, _, h => by simpa [VRel] using h
  | .nils, u, _, h => by simpa [VRel] using h
  | .nilp, u, _, h => by simpa [VRel] using h
  | .nilfn, u, _, h => by simpa [VRel] using h
  | .niliface, u, _, h => by simpa [VRel] using h
  | .raw v, u, _, h => by simpa [VRel] using h
  | .obj v, u, _, h => by simpa [VRel] using h
  | .gp v, u, _, h => by simpa [VRel] using h
  | .yl v, _, g, _ => by simp [V.noid] at g
  | .mp v, u, _, h => by simpa [VRel] using h
theorem noidL_eq : ∀ (l m : List V), noidL l = true → VRelL R l m → m = l
  | [], m, _, h => by simpa [VRelL] using h
  | v :: vs, m, g, h => by
    simp only [noidL, Bool.and_eq_true] at g
    simp only [VRelL] at h
    obtain ⟨u, us, rfl, h1, h2⟩ := h
    rw [noid_eq v u g.1 h1, noidL_eq vs us g.2 h2]
end
theorem VRelL.nil_iff {l : List V} : VRelL R [] l ↔ l = [] := by simp [VRelL]
theorem VRelL.cons_iff {v : V} {vs l : List V} : VRelL R (v :: vs) l ↔ ∃ u us, l = u :: us ∧ VRel R v u ∧ VRelL R vs us := by simp [VRelL]
theorem VRelL.length : ∀ {l m : List V}, VRelL R l m → m.length = l.length
  | [], _, h => by rw [VRelL.nil_iff] at h; simp [h]
  | v :: vs, _, h => by obtain ⟨u, us, rfl, _, h2⟩ := VRelL.cons_iff.1 h; simp [h2.length]
theorem VRelL.get : ∀ {l m : List V}, VRelL R l m → ∀ {i : Nat} {v : V}, l[i]? = some v → ∃ u, m[i]? = some u ∧ VRel R v u
  | [], _, _, i, v, hv => by simp at hv
  | v :: vs, _, h, i, x, hv => by
    obtain ⟨u, us, rfl, h1, h2⟩ := VRelL.cons_iff.1 h
    cases i with
    | zero => simp at hv; subst hv; exact ⟨u, by simp, h1⟩
    | succ i => simp at hv; simpa using h2.get hv
theorem VRelL.append : ∀ {l m l' m' : List V}, VRelL R l m → VRelL R l' m' → VRelL R (l ++ l') (m ++ m')
  | [], _, _, _, h, h' => by rw [VRelL.nil_iff] at h; subst h; simpa using h'
  | v :: vs, _, _, _, h, h' => by
    obtain ⟨u, us, rfl, h1, h2⟩ := VRelL.cons_iff.1 h
    exact VRelL.cons_iff.2 ⟨u, us ++ _, by simp, h1, h2.append h'⟩
theorem VRelL.take : ∀ {l m : List V}, VRelL R l m → ∀ i, VRelL R (l.take i) (m.take i)
  | [], _, h, i => by rw [VRelL.nil_iff] at h; subst h; simp [VRelL]
  | v :: vs, _, h, i => by
    obtain ⟨u, us, rfl, h1, h2⟩ := VRelL.cons_iff.1 h
    cases i with
    | zero => simp [VRelL]
    | succ i => exact VRelL.cons_iff.2 ⟨u, us.take i, by simp, h1, h2.take i⟩
theorem VRelL.drop : ∀ {l m : List V}, VRelL R l m → ∀ i, VRelL R (l.drop i) (m.drop i)
  | [], _, h, i => by rw [VRelL.nil_iff] at h; subst h; simp [VRelL]
  | v :: vs, _, h, i => by
    obtain ⟨u, us, rfl, h1, h2⟩ := VRelL.cons_iff.1 h
    cases i with
    | zero => exact VRelL.cons_iff.2 ⟨u, us, by simp, h1, h2⟩
    | succ i => simpa using h2.drop i
theorem VRelL.set : ∀ {l m : List V}, VRelL R l m → ∀ (i : Nat) {v u : V}, VRel R v u → VRelL R (l.set i v) (m.set i u)
  | [], _, h, i, _, _, _ => by rw [VRelL.nil_iff] at h; subst h; simp [VRelL]
  | v :: vs, _, h, i, x, y, hx => by
    obtain ⟨u, us, rfl, h1, h2⟩ := VRelL.cons_iff.1 h
    cases i with
    | zero => exact VRelL.cons_iff.2 ⟨y, us, by simp, hx, h2⟩
    | succ i => exact VRelL.cons_iff.2 ⟨u, us.set i y, by simp, h1, h2.set i hx⟩
theorem VRelL.replicate {v u : V} (h : VRel R v u) : ∀ n, VRelL R (List.replicate n v) (List.replicate n u)
  | 0 => by simp [VRelL]
  | n + 1 => VRelL.cons_iff.2 ⟨u, List.replicate n u, by simp [List.replicate_succ], h, VRelL.replicate h n⟩
theorem VRelL.one {v u : V} (h : VRel R v u) : VRelL R [v] [u] := VRelL.cons_iff.2 ⟨u, [], rfl, h, by simp [VRelL]⟩
theorem VRel.int_iff {k : IntKind} {n : Int} {u : V} : VRel R (.int k n) u ↔ u = .int k n := by simp [VRel]
theorem VRel.bool_iff {b : Bool} {u : V} : VRel R (.bool b) u ↔ u = .bool b := by simp [VRel]
theorem VRel.str_iff {b : List UInt8} {u : V} : VRel R (.str b) u ↔ u = .str b := by simp [VRel]
theorem VRel.agg_iff {b : List V} {u : V} : VRel R (.agg b) u ↔ ∃ c, u = .agg c ∧ VRelL R b c := by simp [VRel]
theorem VRel.agg {l m : List V} (h : VRelL R l m) : VRel R (.agg l) (.agg m) := VRel.agg_iff.2 ⟨m, rfl, h⟩
theorem VRel.rp {l m : V} (h : VRel R l m) : VRel R (.rp l) (.rp m) := by simp only [VRel]; exact ⟨m, rfl, h⟩
theorem VRel.cells {v u : V} (h : VRel R v u) : VRelL R v.cells u.cells := by
  cases v <;> simp only [VRel] at h
  case agg c => obtain ⟨c', rfl, h⟩ := h; simpa [V.cells] using h
  all_goals first
    | (subst h; exact VRelL.one (by simp [VRel]))
    | (obtain ⟨c, rfl, h⟩ := h; exact VRelL.one (by simp only [VRel]; exact ⟨_, rfl, h⟩))
theorem VRel.stays {v u : V} (h : VRel R v u) : u.stays = v.stays := by
  cases v <;> simp only [VRel] at h <;> first
    | (subst h; rfl)
    | (obtain ⟨c, rfl, h⟩ := h; rfl)
end
end Go.Vc
namespace Go.Vc
def Lv (R : Nat → Nat → Prop) (σc σ : Store) : Prop := ∀ c a o, R c a → σc c = some o → ∃ rows', σ a = some ⟨o.elem, o.sz, rows'⟩ ∧ VRelL R o.rows rows'
theorem Lv.sup {R : Nat → Nat → Prop} {σc σ σ1 : Store} (h : Lv R σc σ) (hs : SubStore σ σ1) : Lv R σc σ1 := fun c a o hc ho => by
  obtain ⟨rows', h1, h2⟩ := h c a o hc ho
  exact ⟨rows', hs _ _ h1, h2⟩
structure MRel (K : Store) (fl : Nat) (R : Nat → Nat → Prop) (σc : Store) (nxt : Nat) (σ : Store) : Prop where
  dom : ∀ c a, R c a → c < nxt
  live : Lv R σc σ
  inj : ∀ c c' a o o', R c a → R c' a → σc c = some o → σc c' = some o' → c = c'
  fn : ∀ c a a', R c a → R c a' → a = a'
  keep : SubStore K σ
  kfl : ∀ a o c oc, K a = some o → R c a → σc c = some oc → c < fl
section
variable {R : Nat → Nat → Prop} {K σc σ : Store} {fl nxt : Nat}
theorem MRel.write (h : MRel K fl R σc nxt σ) {c a : Nat} {o : Ob} (hc : R c a) (ho : σc c = some o) (hf : fl ≤ c) {rows rows' : List V} (hr : VRelL R rows rows') :
    MRel K fl R (upd σc c ⟨o.elem, o.sz, rows⟩) nxt (upd σ a ⟨o.elem, o.sz, rows'⟩) := by
  have hlive : ∀ i x, upd σc c ⟨o.elem, o.sz, rows⟩ i = some x → ∃ y, σc i = some y := fun i x hx => by
    by_cases e : i = c
    · rw [e]; exact ⟨o, ho⟩
    · rw [upd_ne e] at hx; exact ⟨x, hx⟩
  refine ⟨h.dom, ?_, ?_, ?_, ?_, ?_⟩
  · intro c1 a1 o1 h1 h2
    by_cases e : c1 = c
    · subst e
      have : a1 = a := h.fn c1 a1 a h1 hc
      subst this
      rw [upd_same] at h2
      simp only [Option.some.injEq] at h2
      subst h2
      exact ⟨rows', upd_same, hr⟩
    · rw [upd_ne e] at h2
      have hne : a1 ≠ a := fun e' => by subst e'; exact e (h.inj c1 c a1 o1 o h1 hc h2 ho)
      rw [upd_ne hne]
      exact h.live c1 a1 o1 h1 h2
  · intro c1 c2 a1 o1 o2 h1 h2 h3 h4
    obtain ⟨y, hy⟩ := hlive _ _ h3
    obtain ⟨z, hz⟩ := hlive _ _ h4
    exact h.inj c1 c2 a1 y z h1 h2 hy hz
  · exact h.fn
  · intro i x hx
    have hne : i ≠ a := fun e => by subst e; have := h.kfl i x c o hx hc ho; omega
    rw [upd_ne hne]
    exact h.keep i x hx
  · intro a1 o1 c1 oc h1 h2 h3
    obtain ⟨y, hy⟩ := hlive _ _ h3
    exact h.kfl a1 o1 c1 y h1 h2 hy
theorem MRel.rem (h : MRel K fl R σc nxt σ) {c a : Nat} {o : Ob} (hc : R c a) (ho : σc c = some o) (hf : fl ≤ c) :
    MRel K fl R (del σc c) nxt (del σ a) := by
  have hlive : ∀ i x, del σc c i = some x → i ≠ c ∧ σc i = some x := fun i x hx => by
    by_cases e : i = c
    · subst e; simp [Vc.del] at hx
    · rw [del_ne e] at hx; exact ⟨e, hx⟩
  refine ⟨h.dom, ?_, ?_, ?_, ?_, ?_⟩
  · intro c1 a1 o1 h1 h2
    obtain ⟨e, h2⟩ := hlive _ _ h2
    have hne : a1 ≠ a := fun e' => by subst e'; exact e (h.inj c1 c a1 o1 o h1 hc h2 ho)
    rw [del_ne hne]
    exact h.live c1 a1 o1 h1 h2
  · intro c1 c2 a1 o1 o2 h1 h2 h3 h4
    exact h.inj c1 c2 a1 o1 o2 h1 h2 (hlive _ _ h3).2 (hlive _ _ h4).2
  · exact h.fn
  · intro i x hx
    have hne : i ≠ a := fun e => by subst e; have := h.kfl i x c o hx hc ho; omega
    rw [del_ne hne]
    exact h.keep i x hx
  · intro a1 o1 c1 oc h1 h2 h3
    exact h.kfl a1 o1 c1 oc h1 h2 (hlive _ _ h3).2
def ext (R : Nat → Nat → Prop) (c a : Nat) : Nat → Nat → Prop := fun x y => R x y ∨ (x = c ∧ y = a)
theorem ext_le (c a : Nat) : ∀ x y, R x y → ext R c a x y := fun _ _ h => .inl h
theorem MRel.new (h : MRel K fl R σc nxt σ) {i : Nat} (hi : σ i = none) {ob : Ob} {rows' : List V} (hr : VRelL R ob.rows rows') :
    MRel K fl (ext R nxt i) (upd σc nxt ob) (nxt + 1) (upd σ i ⟨ob.elem, ob.sz, rows'⟩) := by
  have hlt : ∀ c a, R c a → c ≠ nxt := fun c a hc => by have := h.dom c a hc; omega
  have hold : ∀ c a o, R c a → upd σc nxt ob c = some o → σc c = some o ∧ a ≠ i := fun c a o hc ho => by
    rw [upd_ne (hlt c a hc)] at ho
    refine ⟨ho, fun e => ?_⟩
    subst e
    obtain ⟨r, hr, _⟩ := h.live c a o hc ho
    rw [hi] at hr; cases hr
  refine ⟨?_, ?_, ?_, ?_, h.keep.upd hi, ?_⟩
  · rintro c a (hc | ⟨rfl, rfl⟩)
    · have := h.dom c a hc; omega
    · omega
  · rintro c a o (hc | ⟨rfl, rfl⟩) ho
    · obtain ⟨h1, h2⟩ := hold c a o hc ho
      obtain ⟨r, h3, h4⟩ := h.live c a o hc h1
      rw [upd_ne h2]
      exact ⟨r, h3, VRelL.mono (ext_le nxt i) _ _ h4⟩
    · rw [upd_same] at ho
      simp only [Option.some.injEq] at ho
      subst ho
      exact ⟨rows', upd_same, VRelL.mono (ext_le _ _) _ _ hr⟩
  · rintro c c' a o o' (hc | ⟨rfl, rfl⟩) (hc' | ⟨rfl, e⟩) ho ho'
    · exact h.inj c c' a o o' hc hc' (hold _ _ _ hc ho).1 (hold _ _ _ hc' ho').1
    · exact absurd e (hold _ _ _ hc ho).2
    · exact absurd rfl (hold _ _ _ hc' ho').2
    · rfl
  · rintro c a a' (hc | ⟨rfl, rfl⟩) (hc' | ⟨e, rfl⟩)
    · exact h.fn c a a' hc hc'
    · exact absurd e (hlt _ _ hc)
    · exact absurd rfl (hlt _ _ hc')
    · rfl
  · rintro a o c oc hk (hc | ⟨rfl, rfl⟩) ho
    · exact h.kfl a o c oc hk hc (hold _ _ _ hc ho).1
    · have := h.keep a o hk
      rw [hi] at this; cases this
def okX : VX → Bool
  | .t _ => true
  | .c v => v.noid
def okOp (op : VOp) : Bool := op.xs.all okX && (match op with
  | .alloc _ _ z => z.noid
  | .build zero _ => noidL zero
  | .clear _ z _ => z.noid
  | .mk _ _ _ z _ => z.noid
  | .more (.tas _ _ z) _ => z.noid
  | _ => true)
def okIns (i : VIns) : Bool := okOp i.op && (match i.g with
  | some (x, _) => okX x
  | none => true)
def okRes : VR → Bool
  | .tmp x => okX x
  | .cell _ _ x => okX x
  | .bad => true
variable {s s' : Nat → V}
theorem ev_rel (hs : ∀ i, VRel R (s i) (s' i)) {x : VX} (hx : okX x = true) : VRel R (x.ev s) (x.ev s') := by
  cases x with
  | t n => exact hs n
  | c v => exact noid_refl v hx
theorem evs_rel (hs : ∀ i, VRel R (s i) (s' i)) : ∀ {xs : List VX}, xs.all okX = true → VRelL R (xs.map (·.ev s)) (xs.map (·.ev s'))
  | [], _ => by simp [VRelL]
  | x :: xs, h => by
    simp only [List.all_cons, Bool.and_eq_true] at h
    exact VRelL.cons_iff.2 ⟨_, _, rfl, ev_rel hs h.1, evs_rel hs h.2⟩
theorem intBin_noid {op : BinOp} {k : IntKind} {a b : Int} {v : V} (h : intBin op k a b = some v) : v.noid = true := by
  unfold intBin at h
  split at h <;> first
    | (simp only [Option.some.injEq] at h; subst h; rfl)
    | (split at h <;> first | (simp only [Option.some.injEq] at h; subst h; rfl) | cases h)
    | cases h
theorem strBin_noid {op : BinOp} {a b : List UInt8} {v : V} (h : strBin op a b = some v) : v.noid = true := by
  unfold strBin at h
  split at h <;> first
    | (simp only [Option.some.injEq] at h; subst h; rfl)
    | cases h
theorem binV_rel {op : BinOp} {a b a' b' v : V} (ha : VRel R a a') (hb : VRel R b b') (h : binV op a b = some v) : a' = a ∧ b' = b ∧ v.noid = true := by
  unfold binV at h
  split at h
  · simp only [VRel] at ha hb
    split at h
    · exact ⟨ha, hb, intBin_noid h⟩
    · cases h
  · simp only [VRel] at ha hb
    exact ⟨ha, hb, strBin_noid h⟩
  · cases h
theorem lenV_rel {b : Bool} {x x' v : V} (hx : VRel R x x') (h : lenV b x = some v) : ∃ v', lenV b x' = some v' ∧ VRel R v v' := by
  unfold lenV at h
  split at h <;> simp only [Option.some.injEq, reduceCtorEq] at h <;> simp only [VRel] at hx <;> subst h
  · obtain ⟨i, rfl, _⟩ := hx; exact ⟨_, rfl, by simp [VRel]⟩
  · obtain ⟨i, rfl, hr⟩ := hx; exact ⟨_, rfl, by simp [VRel, hr.length]⟩
  · subst hx; exact ⟨_, rfl, by simp [VRel]⟩
  · subst hx; exact ⟨_, rfl, by simp [VRel]⟩
theorem subCells_rel {agg : Bool} {off sz : Nat} {vs us : List V} {v : V} (h : VRelL R vs us) (hv : subCells agg off sz vs = some v) : ∃ v', subCells agg off sz us = some v' ∧ VRel R v v' := by
  unfold subCells at hv ⊢
  cases agg
  · simpa using h.get hv
  · simp only [if_true, Option.some.injEq] at hv ⊢
    subst hv
    exact ⟨_, rfl, VRel.agg ((h.drop off).take sz)⟩
theorem fldV_rel {agg : Bool} {off sz : Nat} {x x' v : V} (hx : VRel R x x') (h : fldV agg off sz x = some v) : ∃ v', fldV agg off sz x' = some v' ∧ VRel R v v' := by
  unfold fldV at h
  split at h
  · obtain ⟨c, rfl, hr⟩ := VRel.agg_iff.1 hx
    exact subCells_rel hr h
  · cases h
theorem fldAV_rel {agg : Bool} {off sz : Nat} {x x' v : V} (hx : VRel R x x') (h : fldAV agg off sz x = some v) : ∃ v', fldAV agg off sz x' = some v' ∧ VRel R v v' := by
  unfold fldAV at h
  split at h
  · simp only [VRel] at hx
    obtain ⟨i, rfl, hr⟩ := hx
    simp only [Option.some.injEq] at h; subst h
    exact ⟨_, rfl, by simp only [VRel]; exact ⟨i, rfl, hr⟩⟩
  · simp only [VRel] at hx
    obtain ⟨u, rfl, hr⟩ := hx
    simp only [Option.map_eq_some_iff] at h
    obtain ⟨w, hw, rfl⟩ := h
    obtain ⟨w', h1, h2⟩ := subCells_rel hr.cells hw
    exact ⟨.rp w', by simp [fldAV, h1], VRel.rp h2⟩
  · cases h
theorem idxAV_rel (hm : Lv R σc σ) {esz : Nat} {x i x' i' v : V} (hx : VRel R x x') (hi : VRel R i i') (h : idxAV σc esz x i = some v) : ∃ v', idxAV σ esz x' i' = some v' ∧ VRel R v v' := by
  unfold idxAV at h
  split at h
  · simp only [VRel] at hx hi
    obtain ⟨a, rfl, ha⟩ := hx
    subst hi
    split at h
    · rename_i ob hob
      obtain ⟨rows', h1, h2⟩ := hm _ _ _ ha hob
      split at h
      · rename_i hc
        simp only [Option.some.injEq] at h; subst h
        refine ⟨_, ?_, by simp only [VRel]; exact ⟨a, rfl, ha⟩⟩
        simp only [idxAV, h1]
        rw [if_pos hc]
      · cases h
    · cases h
  · simp only [VRel] at hx hi
    obtain ⟨rows', rfl, hr⟩ := hx
    subst hi
    split at h
    · rename_i hc
      split at h
      · rename_i r hrr
        simp only [Option.some.injEq] at h; subst h
        obtain ⟨u, h1, h2⟩ := hr.get hrr
        refine ⟨.rp u, ?_, VRel.rp h2⟩
        simp only [idxAV, h1]
        rw [if_pos hc]
      · cases h
    · cases h
  · cases h
theorem idxAAV_rel {agg : Bool} {n esz : Nat} {x i x' i' v : V} (hx : VRel R x x') (hi : VRel R i i') (h : idxAAV agg n esz x i = some v) : ∃ v', idxAAV agg n esz x' i' = some v' ∧ VRel R v v' := by
  unfold idxAAV at h
  split at h
  · simp only [VRel] at hx hi
    obtain ⟨a, rfl, ha⟩ := hx
    subst hi
    split at h
    · rename_i hc
      simp only [Option.some.injEq] at h; subst h
      exact ⟨_, by simp only [idxAAV]; rw [if_pos hc], by simp only [VRel]; exact ⟨a, rfl, ha⟩⟩
    · cases h
  · simp only [VRel] at hx hi
    obtain ⟨u, rfl, hr⟩ := hx
    subst hi
    split at h
    · rename_i hc
      simp only [Option.map_eq_some_iff] at h
      obtain ⟨w, hw, rfl⟩ := h
      obtain ⟨w', h1, h2⟩ := subCells_rel hr.cells hw
      exact ⟨.rp w', by simp only [idxAAV]; rw [if_pos hc, h1]; rfl, VRel.rp h2⟩
    · cases h
  · cases h
theorem idxVV_rel {agg : Bool} {n esz : Nat} {x i x' i' v : V} (hx : VRel R x x') (hi : VRel R i i') (h : idxVV agg n esz x i = some v) : ∃ v', idxVV agg n esz x' i' = some v' ∧ VRel R v v' := by
  unfold idxVV at h
  split at h
  · obtain ⟨c, rfl, hr⟩ := VRel.agg_iff.1 hx
    rw [VRel.int_iff] at hi
    subst hi
    split at h
    · rename_i hc
      obtain ⟨w', h1, h2⟩ := subCells_rel hr h
      exact ⟨w', by simp only [idxVV]; rw [if_pos hc, h1], h2⟩
    · cases h
  · cases h
theorem idxSV_rel {x i x' i' v : V} (hx : VRel R x x') (hi : VRel R i i') (h : idxSV x i = some v) : ∃ v', idxSV x' i' = some v' ∧ VRel R v v' := by
  have h0 := h
  unfold idxSV at h
  split at h
  · rw [VRel.str_iff] at hx
    rw [VRel.int_iff] at hi
    subst hx hi
    refine ⟨v, h0, ?_⟩
    split at h
    · split at h
      · simp only [Option.some.injEq] at h; subst h; simp [VRel]
      · cases h
    · cases h
  · cases h
theorem loadV_rel (hm : Lv R σc σ) {agg : Bool} {sz : Nat} {x x' v : V} (hx : VRel R x x') (h : loadV σc agg sz x = some v) : ∃ v', loadV σ agg sz x' = some v' ∧ VRel R v v' := by
  unfold loadV at h
  split at h
  · simp only [VRel] at hx
    obtain ⟨a, rfl, ha⟩ := hx
    split at h
    · rename_i ob hob
      obtain ⟨rows', h1, h2⟩ := hm _ _ _ ha hob
      split at h
      · rename_i r hr
        obtain ⟨r', h3, h4⟩ := h2.get hr
        have hl := h4.cells.length
        simp only [loadV, h1, h3, hl]
        cases agg
        · simp only [Bool.false_eq_true, if_false] at h ⊢
          exact h4.cells.get h
        · simp only [if_true] at h ⊢
          split at h
          · rename_i hc
            simp only [Option.some.injEq] at h; subst h
            exact ⟨_, by rw [if_pos hc], VRel.agg h4.cells⟩
          · split at h
            · rename_i hc hc'
              rw [if_neg hc, if_pos hc']
              simp only [Option.some.injEq] at h; subst h
              exact ⟨_, rfl, VRel.agg ((h4.cells.drop _).take _)⟩
            · cases h
      · cases h
    · cases h
  · simp only [VRel] at hx
    obtain ⟨u, rfl, hr⟩ := hx
    rename_i w
    have hl := hr.cells.length
    cases agg
    · simp only [Bool.false_eq_true, if_false] at h
      split at h
      · cases h
      · simp only [Option.some.injEq] at h; subst h
        rename_i hna
        refine ⟨u, ?_, hr⟩
        cases u <;> simp only [loadV, Bool.false_eq_true, if_false]
        cases w <;> simp only [VRel] at hr <;> simp at hr hna
    · simp only [if_true] at h
      split at h
      · rename_i hc
        simp only [Option.some.injEq] at h; subst h
        refine ⟨_, ?_, VRel.agg hr.cells⟩
        simp only [loadV, hl, if_true]
        rw [if_pos hc]
      · cases h
  · cases h
theorem boundV_rel {d : Int} : ∀ {o o' : Option V}, (match o, o' with | none, none => True | some x, some x' => VRel R x x' | _, _ => False) → ∀ {j : Int}, boundV d o = some j → boundV d o' = some j
  | none, none, _, j, h => h
  | some x, some x', hx, j, h => by
    simp only at hx
    cases x <;> simp only [boundV] at h <;> first | cases h | skip
    rw [VRel.int_iff] at hx
    subst hx
    rfl
  | none, some _, hx, _, _ => hx.elim
  | some _, none, hx, _, _ => hx.elim
theorem sliceV_rel (hm : Lv R σc σ) {esz : Nat} {x x' v : V} {lo hi mx lo' hi' mx' : Option V} (hx : VRel R x x')
    (h1 : ∀ d j, boundV d lo = some j → boundV d lo' = some j) (h2 : ∀ d j, boundV d hi = some j → boundV d hi' = some j) (h3 : ∀ d j, boundV d mx = some j → boundV d mx' = some j)
    (h : sliceV σc esz x lo hi mx = some v) : ∃ v', sliceV σ esz x' lo' hi' mx' = some v' ∧ VRel R v v' := by
  unfold sliceV at h
  split at h
  · simp only [VRel] at hx
    obtain ⟨a, rfl, ha⟩ := hx
    split at h
    · rename_i l hh m e1 e2 e3
      split at h
      · rename_i hc
        simp only [Option.some.injEq] at h; subst h
        have hsz : szIs σ a esz = true := by
          have hz := hc.2.2.2.2
          unfold szIs at hz ⊢
          split at hz
          · rename_i ob hob
            obtain ⟨rows', g1, g2⟩ := hm _ _ _ ha hob
            rw [g1]; exact hz
          · cases hz
        refine ⟨_, ?_, by simp only [VRel]; exact ⟨a, rfl, ha⟩⟩
        simp only [sliceV, h1 _ _ e1, h2 _ _ e2, h3 _ _ e3]
        rw [if_pos ⟨hc.1, hc.2.1, hc.2.2.1, hc.2.2.2.1, hsz⟩]
      · cases h
    · cases h
  · simp only [VRel] at hx
    obtain ⟨rows', rfl, hr⟩ := hx
    have hl := hr.length
    split at h
    · rename_i l hh m e1 e2 e3
      split at h
      · rename_i hc
        simp only [Option.some.injEq] at h; subst h
        refine ⟨.sl _ ((rows'.drop l.toNat).take (hh.toNat - l.toNat)), ?_, by simp only [VRel]; exact ⟨_, rfl, (hr.drop _).take _⟩⟩
        simp only [sliceV, h1 _ _ e1, hl, h2 _ _ e2, h3 _ _ e3]
        rw [if_pos hc]
      · cases h
    · cases h
  · simp only [VRel] at hx
    subst hx
    split at h
    · rename_i l hh m e1 e2 e3
      split at h
      · rename_i hc
        simp only [Option.some.injEq] at h; subst h
        refine ⟨.nils, ?_, by simp [VRel]⟩
        simp only [sliceV, h1 _ _ e1, h2 _ _ e2, h3 _ _ e3]
        rw [if_pos hc]
      · cases h
    · cases h
  · cases h
theorem sliceSV_rel {x x' v : V} {lo hi lo' hi' : Option V} (hx : VRel R x x')
    (h1 : ∀ d j, boundV d lo = some j → boundV d lo' = some j) (h2 : ∀ d j, boundV d hi = some j → boundV d hi' = some j)
    (h : sliceSV x lo hi = some v) : ∃ v', sliceSV x' lo' hi' = some v' ∧ VRel R v v' := by
  unfold sliceSV at h
  split at h
  · rw [VRel.str_iff] at hx
    subst hx
    split at h
    · rename_i l hh e1 e2
      split at h
      · rename_i hc
        simp only [Option.some.injEq] at h; subst h
        refine ⟨_, ?_, VRel.str_iff.2 rfl⟩
        simp only [sliceSV, h1 _ _ e1, h2 _ _ e2]
        rw [if_pos hc]
      · cases h
    · cases h
  · cases h
theorem nilCheckV_rel {x x' v : V} (hx : VRel R x x') (h : nilCheckV x = some v) : ∃ v', nilCheckV x' = some v' ∧ VRel R v v' := by
  unfold nilCheckV at h
  split at h <;> first | cases h | skip
  all_goals (have hx0 := hx; simp only [VRel] at hx; obtain ⟨i, rfl, _⟩ := hx; exact ⟨_, rfl, hx0⟩)
theorem binBV_rel {neg : Bool} {x y x' y' v : V} (hx : VRel R x x') (hy : VRel R y y') (h : binBV neg x y = some v) : ∃ v', binBV neg x' y' = some v' ∧ VRel R v v' := by
  have h0 := h
  unfold binBV at h
  split at h
  · rw [VRel.bool_iff] at hx hy
    subst hx hy
    refine ⟨v, h0, ?_⟩
    simp only [Option.some.injEq] at h; subst h; simp [VRel]
  · cases h
theorem minmaxV_rel {m : Bool} {x y x' y' v : V} (hx : VRel R x x') (hy : VRel R y y') (h : minmaxV m x y = some v) : ∃ v', minmaxV m x' y' = some v' ∧ VRel R v v' := by
  have h0 := h
  unfold minmaxV at h
  split at h
  · rw [VRel.int_iff] at hx hy
    subst hx hy
    refine ⟨v, h0, ?_⟩
    split at h
    · simp only [Option.some.injEq] at h; subst h; simp [VRel]
    · cases h
  · cases h
theorem eqCell_rel {x y x' y' : V} {b : Bool} (hx : VRel R x x') (hy : VRel R y y') (h : eqCell x y = some b) : x' = x ∧ y' = y := by
  unfold eqCell at h
  split at h <;> first | cases h | skip
  all_goals simp only [VRel] at hx hy
  all_goals exact ⟨hx, hy⟩
theorem eqCells_rel : ∀ {l m l' m' : List V} {b : Bool}, VRelL R l l' → VRelL R m m' → eqCells l m = some b → l' = l ∧ m' = m
  | [], [], _, _, _, h1, h2, _ => by rw [VRelL.nil_iff] at h1 h2; exact ⟨h1, h2⟩
  | v :: vs, u :: us, _, _, b, h1, h2, h => by
    obtain ⟨v', vs', rfl, g1, g2⟩ := VRelL.cons_iff.1 h1
    obtain ⟨u', us', rfl, g3, g4⟩ := VRelL.cons_iff.1 h2
    simp only [eqCells] at h
    split at h
    · rename_i e1 e2
      obtain ⟨rfl, rfl⟩ := eqCell_rel g1 g3 e1
      obtain ⟨rfl, rfl⟩ := eqCells_rel g2 g4 e2
      exact ⟨rfl, rfl⟩
    · cases h
  | [], _ :: _, _, _, _, _, _, h => by simp [eqCells] at h
  | _ :: _, [], _, _, _, _, _, h => by simp [eqCells] at h
theorem eqSV_rel {neg : Bool} {ks : List Nat} {x y x' y' v : V} (hx : VRel R x x') (hy : VRel R y y') (h : eqSV neg ks x y = some v) : ∃ v', eqSV neg ks x' y' = some v' ∧ VRel R v v' := by
  have h0 := h
  unfold eqSV at h
  split at h
  · obtain ⟨c, rfl, g1⟩ := VRel.agg_iff.1 hx
    obtain ⟨d, rfl, g2⟩ := VRel.agg_iff.1 hy
    split at h
    · split at h
      · rename_i e
        obtain ⟨rfl, rfl⟩ := eqCells_rel g1 g2 e
        refine ⟨v, h0, ?_⟩
        simp only [Option.some.injEq] at h; subst h; simp [VRel]
      · cases h
    · cases h
  · cases h
theorem bytesOf_rel : ∀ {l m : List V} {b : List UInt8}, VRelL R l m → bytesOf l = some b → m = l
  | [], _, _, h, _ => by rw [VRelL.nil_iff] at h; exact h
  | v :: vs, _, b, h, hb => by
    obtain ⟨u, us, rfl, g1, g2⟩ := VRelL.cons_iff.1 h
    simp only [bytesOf] at hb
    split at hb
    · rename_i e1 e2
      rw [bytesOf_rel g2 e2]
      cases v <;> simp [byteOf] at e1
      rw [VRel.int_iff] at g1
      rw [g1]
    · cases hb
theorem bytesV_rel (hm : Lv R σc σ) {x x' v : V} (hx : VRel R x x') (h : bytesV σc x = some v) : ∃ v', bytesV σ x' = some v' ∧ VRel R v v' := by
  unfold bytesV at h
  split at h
  · simp only [VRel] at hx; subst hx
    simp only [Option.some.injEq] at h; subst h
    exact ⟨_, rfl, by simp [VRel]⟩
  · simp only [VRel] at hx
    obtain ⟨a, rfl, ha⟩ := hx
    split at h
    · rename_i ob hob
      obtain ⟨rows', h1, h2⟩ := hm _ _ _ ha hob
      split at h
      · rename_i hc
        simp only [Option.map_eq_some_iff] at h
        obtain ⟨l, hl, rfl⟩ := h
        have e := bytesOf_rel ((h2.drop _).take _) hl
        refine ⟨_, ?_, VRel.str_iff.2 rfl⟩
        simp only [bytesV, h1, h2.length, e, hl, Option.map_some]
        rw [if_pos hc]
      · cases h
    · cases h
  · cases h
theorem extV_rel {i : Nat} {x x' v : V} (hx : VRel R x x') (h : extV i x = some v) : ∃ v', extV i x' = some v' ∧ VRel R v v' := by
  unfold extV at h
  split at h
  · simp only [VRel] at hx
    obtain ⟨c, rfl, hr⟩ := hx
    exact hr.get h
  · cases h
def PartsRel (R : Nat → Nat → Prop) : List (Nat × Nat × V) → List (Nat × Nat × V) → Prop
  | [], l => l = []
  | p :: ps, l => ∃ u us, l = (p.1, p.2.1, u) :: us ∧ VRel R p.2.2 u ∧ PartsRel R ps us
theorem buildV_rel : ∀ {ps ps' : List (Nat × Nat × V)} {z z' l : List V}, VRelL R z z' → PartsRel R ps ps' → buildV z ps = some l → ∃ l', buildV z' ps' = some l' ∧ VRelL R l l'
  | [], _, z, z', l, hz, hp, h => by
    simp only [PartsRel] at hp; subst hp
    simp only [buildV, Option.some.injEq] at h; subst h
    exact ⟨_, rfl, hz⟩
  | (off, sz, x) :: ps, _, z, z', l, hz, hp, h => by
    simp only [PartsRel] at hp
    obtain ⟨u, us, rfl, h1, h2⟩ := hp
    simp only [buildV] at h ⊢
    split at h
    · rename_i hc
      rw [if_pos ⟨by rw [h1.cells.length]; exact hc.1, by rw [h1.stays]; exact hc.2.1, by rw [hz.length]; exact hc.2.2⟩]
      refine buildV_rel ?_ h2 h
      unfold splice
      rw [h1.cells.length]
      exact ((hz.take _).append h1.cells).append (hz.drop _)
    · cases h
theorem bound_ev (hs : ∀ i, VRel R (s i) (s' i)) {lo : Option VX} (h : ∀ x ∈ lo.toList, okX x = true) (d j : Int) : boundV d (lo.map (·.ev s)) = some j → boundV d (lo.map (·.ev s')) = some j := by
  refine boundV_rel (R := R) ?_
  cases lo with
  | none => trivial
  | some x => exact ev_rel hs (h x (by simp))
theorem vpure_rel (hm : Lv R σc σ) (hs : ∀ i, VRel R (s i) (s' i)) {op : VOp} (hok : okOp op = true) {v : V} (hp : vpre s op) (h : vpure σc s op = some v) :
    vpre s' op ∧ ∃ v', vpure σ s' op = some v' ∧ VRel R v v' := by
  have hok' := hok
  simp only [okOp, Bool.and_eq_true] at hok
  have hx := List.all_eq_true.1 hok.1
  have E : ∀ x, x ∈ op.xs → VRel R (x.ev s) (x.ev s') := fun x h => ev_rel hs (hx x h)
  cases op <;> simp only [VOp.xs, List.mem_cons, List.not_mem_nil, or_false, forall_eq_or_imp, forall_eq, List.mem_append] at E <;> simp only [vpure, vpre, Option.some.injEq, reduceCtorEq, true_and] at h hp ⊢
  case mov => subst h; exact ⟨_, rfl, E⟩
  case pick c a b =>
    split at h
    · rename_i t ht
      have := E.1
      rw [ht, VRel.bool_iff] at this
      rw [this]
      simp only [Option.some.injEq] at h ⊢
      subst h
      refine ⟨_, rfl, ?_⟩
      cases t
      · exact E.2.2
      · exact E.2.1
    · cases h
  case bin op x y =>
    obtain ⟨e1, e2, e3⟩ := binV_rel E.1 E.2 h
    rw [e1, e2]
    exact ⟨hp, v, h, noid_refl v e3⟩
  case not x =>
    split at h
    · rename_i b hb
      rw [hb, VRel.bool_iff] at E
      rw [E]
      simp only [Option.some.injEq] at h ⊢; subst h
      exact ⟨_, rfl, by simp [VRel]⟩
    · cases h
  case neg x =>
    split at h
    · rename_i k b hb
      rw [hb] at hp
      rw [hb, VRel.int_iff] at E
      rw [E]
      simp only [Option.some.injEq] at h ⊢; subst h
      exact ⟨hp, _, rfl, by simp [VRel]⟩
    · cases h
  case len => exact lenV_rel E h
  case cap =>
    unfold capV at h
    split at h
    · rename_i hn
      rw [hn] at E
      simp only [VRel] at E
      rw [E]
      simp only [Option.some.injEq] at h
      subst h
      exact ⟨_, rfl, by simp [VRel]⟩
    · cases h
  case fld => exact fldV_rel E h
  case fldA => exact fldAV_rel E h
  case idxA => exact idxAV_rel hm E.1 E.2 h
  case idxAA => exact idxAAV_rel E.1 E.2 h
  case idxV => exact idxVV_rel E.1 E.2 h
  case idxS => exact idxSV_rel E.1 E.2 h
  case load => exact loadV_rel hm E h
  case slice esz x lo hi mx =>
    have hx' := hx
    simp only [VOp.xs, List.mem_cons, List.mem_append] at hx'
    exact sliceV_rel hm E.1 (bound_ev hs fun y hy => hx' y (.inr (.inl (.inl hy)))) (bound_ev hs fun y hy => hx' y (.inr (.inl (.inr hy)))) (bound_ev hs fun y hy => hx' y (.inr (.inr hy))) h
  case sliceS x lo hi =>
    have hx' := hx
    simp only [VOp.xs, List.mem_cons, List.mem_append] at hx'
    exact sliceSV_rel E.1 (bound_ev hs fun y hy => hx' y (.inr (.inl hy))) (bound_ev hs fun y hy => hx' y (.inr (.inr hy))) h
  case ext => exact extV_rel E h
  case more m xs =>
    by_cases hb : ∃ f, m = .mkB f
    · obtain ⟨f, rfl⟩ := hb
      simp only [vpure, Option.some.injEq] at h ⊢
      subst h
      exact ⟨_, rfl, by simp only [VRel]; exact ⟨_, rfl, evs_rel hs hok.1⟩⟩
    cases xs with
    | nil => cases m <;> first | exact absurd ⟨_, rfl⟩ hb | simp [vpure] at h
    | cons x xs =>
      have ex := E x (by simp)
      cases xs with
      | cons y ys => cases m <;> first | exact absurd ⟨_, rfl⟩ hb | simp [vpure] at h
      | nil =>
        cases m
        case mkB => exact absurd ⟨_, rfl⟩ hb
        case mkI t =>
          simp only [Option.some.injEq] at h ⊢
          subst h
          exact ⟨_, rfl, by simp only [VRel]; exact ⟨_, rfl, ex⟩⟩
        case tas t ok z =>
          have hz : z.noid = true := hok.2
          simp only [] at h ⊢
          unfold tasV at h ⊢
          split at h
          · rename_i t' v' hv'
            rw [hv'] at ex
            simp only [VRel] at ex
            obtain ⟨u, hu, hru⟩ := ex
            rw [hu]
            simp only
            split at h
            · rename_i e
              rw [if_pos e]
              simp only [Option.some.injEq] at h ⊢
              subst h
              refine ⟨_, rfl, ?_⟩
              cases ok
              · exact hru
              · simp only [if_true, VRel, VRelL]; exact ⟨_, rfl, _, _, rfl, hru, _, _, rfl, rfl, rfl⟩
            · rename_i e
              rw [if_neg e]
              cases ok
              · simp at h
              · simp only [if_true, Option.some.injEq] at h ⊢
                subst h
                refine ⟨_, rfl, ?_⟩
                simp only [VRel, VRelL]; exact ⟨_, rfl, _, _, rfl, noid_refl z hz, _, _, rfl, rfl, rfl⟩
          · rename_i hv'
            rw [hv'] at ex
            simp only [VRel] at ex
            rw [ex]
            cases ok
            · simp at h
            · simp only [if_true, Option.some.injEq] at h ⊢
              subst h
              refine ⟨_, rfl, ?_⟩
              simp only [VRel, VRelL]; exact ⟨_, rfl, _, _, rfl, noid_refl z hz, _, _, rfl, rfl, rfl⟩
          · cases h
        case nilP neg =>
          simp only [] at h ⊢
          unfold nilPV at h
          split at h
          · rename_i hv'
            rw [hv'] at ex
            simp only [VRel] at ex
            rw [ex]
            exact ⟨v, h, by simp only [Option.some.injEq] at h; subst h; simp [VRel]⟩
          · rename_i hv'
            rw [hv'] at ex
            simp only [VRel] at ex
            obtain ⟨u, hu, _⟩ := ex
            rw [hu]
            exact ⟨v, h, by simp only [Option.some.injEq] at h; subst h; simp [VRel]⟩
          · rename_i hv'
            rw [hv'] at ex
            simp only [VRel] at ex
            obtain ⟨u, hu, _⟩ := ex
            rw [hu]
            exact ⟨v, h, by simp only [Option.some.injEq] at h; subst h; simp [VRel]⟩
          · cases h
        all_goals simp [vpure] at h
  case mkfn f xs =>
    subst h
    exact ⟨_, rfl, by simp only [VRel]; exact ⟨_, rfl, evs_rel hs hok.1⟩⟩
  case convI k x =>
    split at h
    · rename_i k' b hb
      rw [hb] at hp
      rw [hb, VRel.int_iff] at E
      rw [E]
      simp only [Option.some.injEq] at h ⊢; subst h
      exact ⟨hp, _, rfl, by simp [VRel]⟩
    · cases h
  case nilCheck => exact nilCheckV_rel E h
  case binB => exact binBV_rel E.1 E.2 h
  case eqS => exact eqSV_rel E.1 E.2 h
  case minmax => exact minmaxV_rel E.1 E.2 h
  case bstr => exact bytesV_rel hm E h
  case build zero parts =>
    simp only [Option.map_eq_some_iff] at h
    obtain ⟨l, hl, rfl⟩ := h
    have hpr : ∀ ps : List (Nat × Nat × VX), (∀ p ∈ ps, okX p.2.2 = true) → PartsRel R (ps.map fun p => (p.1, p.2.1, p.2.2.ev s)) (ps.map fun p => (p.1, p.2.1, p.2.2.ev s')) := by
      intro ps
      induction ps with
      | nil => intro _; simp [PartsRel]
      | cons p ps ih =>
        intro hps
        simp only [List.map_cons, PartsRel]
        exact ⟨_, _, rfl, ev_rel hs (hps p (by simp)), ih fun q hq => hps q (by simp [hq])⟩
    obtain ⟨l', h1, h2⟩ := buildV_rel (noidL_refl zero hok.2) (hpr parts fun p hp => hx _ (by simp only [VOp.xs, List.mem_map]; exact ⟨p, hp, rfl⟩)) hl
    exact ⟨.agg l', by rw [h1]; rfl, VRel.agg h2⟩
end
end Go.Vc
namespace Go.Vc
variable {R : Nat → Nat → Prop} {K : Store} {fl : Nat} {P : Program} {n : Nat}
structure SRel (K : Store) (fl : Nat) (R : Nat → Nat → Prop) (cs : CS) (st : St) : Prop where
  slot : ∀ i, VRel R (cs.sf i) (st.s i)
  mem : MRel K fl R (stF cs.σ) cs.nxt st.σ
theorem slots_put {s s' : Nat → V} (h : ∀ i, VRel R (s i) (s' i)) {d : Option Nat} {v u : V} (hv : VRel R v u) : ∀ i, VRel R (putO s d v i) (putO s' d u i) := by
  intro i
  cases d with
  | none => exact h i
  | some d =>
    show VRel R (if i = d then v else s i) (if i = d then u else s' i)
    split
    · exact hv
    · exact h i
theorem SRel.put {cs : CS} {st : St} (h : SRel K fl R cs st) {d : Option Nat} {v u : V} (hv : VRel R v u) : SRel K fl R (cs.put d v) ⟨putO st.s d u, st.σ⟩ := by
  refine ⟨?_, ?_⟩
  · rw [sf_put]; exact slots_put h.slot hv
  · rw [(put_σ cs d v).1, (put_σ cs d v).2]; exact h.mem
theorem VRel.nilt : VRel R (.tup []) (.tup []) := by simp [VRel, VRelL]
theorem eqQ_eq (a b : Int) : eqQ a b = decide (a = b) := by
  cases a <;> cases b <;> rw [Bool.eq_iff_iff] <;> simp [eqQ] <;> first | rfl | omega
theorem leQ_eq (a b : Int) : leQ a b = decide (a ≤ b) := by
  cases a <;> cases b <;> rw [Bool.eq_iff_iff] <;> simp only [leQ, Nat.ble_eq, decide_eq_true_eq, Bool.false_eq_true, false_iff, true_iff, Int.ofNat_eq_natCast] <;> omega
theorem addQ_eq (a b : Int) : addQ a b = a + b := by cases a <;> cases b <;> rfl
theorem subQ_eq (a b : Int) : subQ a b = a - b := by
  cases a <;> cases b <;> simp only [subQ]
  rename_i m k
  cases h : Nat.ble k m
  · have : ¬ k ≤ m := by rw [← Nat.ble_eq]; simp [h]
    simp only [Nat.sub_eq, Int.ofNat_eq_natCast]
    omega
  · have : k ≤ m := Nat.le_of_ble_eq_true h
    simp only [Nat.sub_eq, Int.ofNat_eq_natCast]
    omega
theorem in64_eq {a : Int} (h : in64 a = true) : inR .i64 a := by
  cases a <;> simp only [in64, Nat.ble_eq] at h
  · rw [Int.ofNat_eq_natCast]; exact inR_i64 (by omega) (by omega)
  · exact inR_i64 (by omega) (by omega)
theorem inRB_eq {k : IntKind} {a : Int} (h : inRB k a = true) : inR k a := by
  unfold inRB at h
  split at h
  · exact in64_eq h
  · simpa [inR] using h
theorem bcase {α : Type} {b : Bool} {x y : α} : @Bool.casesOn (fun _ => α) b x y = if b then y else x := by cases b <;> rfl
theorem brec {α : Type} {b : Bool} {x y : α} : @Bool.rec (fun _ => α) x y b = if b then y else x := by cases b <;> rfl
theorem gI_eq {k : IntKind} {a : Int} {v : V} (h : gI k a = some v) : v = .int k a ∧ inR k a := by
  unfold gI at h
  rw [bcase] at h
  split at h
  · rename_i hi
    simp only [Option.some.injEq] at h
    exact ⟨h.symm, inRB_eq hi⟩
  · cases h
theorem intBinQ_eq {op : BinOp} {k : IntKind} {a b : Int} {v : V} (h : (intBinQ op).f k a b = some v) : intPre op k a b ∧ intBin op k a b = some v := by
  unfold intBinQ at h
  split at h <;> simp only [] at h
  · obtain ⟨rfl, h2⟩ := gI_eq h; rw [addQ_eq] at *; exact ⟨h2, rfl⟩
  · obtain ⟨rfl, h2⟩ := gI_eq h; rw [subQ_eq] at *; exact ⟨h2, rfl⟩
  · obtain ⟨rfl, h2⟩ := gI_eq h; exact ⟨h2, rfl⟩
  · split at h
    · cases h
    · rename_i hb
      obtain ⟨rfl, h2⟩ := gI_eq h; exact ⟨h2, by simp [intBin, hb]⟩
  · split at h
    · cases h
    · rename_i hb
      simp only [Option.some.injEq] at h; subst h
      exact ⟨trivial, by simp [intBin, hb]⟩
  all_goals first
    | exact ⟨trivial, h⟩
    | (simp only [Option.some.injEq] at h; subst h; refine ⟨trivial, ?_⟩; simp only [eqQ_eq, leQ_eq, intBin, Option.some.injEq, V.bool.injEq]; try (rw [Bool.eq_iff_iff]; simp))
    | cases h
theorem strBinQ_eq {op : BinOp} {a b : List UInt8} {v : V} (h : strBinQ op a b = some v) : strPre op a b ∧ strBin op a b = some v := by
  unfold strBinQ at h
  split at h
  · rw [bcase] at h
    split at h
    · rename_i hb
      simp only [Option.some.injEq] at h; subst h
      exact ⟨Nat.le_of_ble_eq_true hb, rfl⟩
    · cases h
  · exact ⟨trivial, h⟩
  · exact ⟨trivial, h⟩
  · cases h
theorem sameK_eq {k k' : IntKind} (h : sameK k k' = true) : k = k' := by
  unfold sameK at h
  rw [bcase] at h
  cases k <;> cases k' <;> simp_all [is64, eqK]
theorem binQ_eq {op : BinOp} {x y v : V} (h : binQ op (intBinQ op).f y x = some v) : binPre op x y ∧ binV op x y = some v := by
  unfold binQ at h
  split at h
  · unfold binI at h
    split at h
    · rw [bcase] at h
      split at h
      · rename_i hk
        have := sameK_eq hk
        subst this
        obtain ⟨h1, h2⟩ := intBinQ_eq h
        exact ⟨h1, by simp [binV, h2]⟩
      · cases h
    · cases h
  · unfold binS at h
    split at h
    · exact strBinQ_eq h
    · cases h
  · cases h
theorem idxQ_eq {σ : Tr (Option Ob)} {esz : Nat} {x i v : V} (h : idxQ σ esz x i = some v) : idxAV (stF σ) esz x i = some v := by
  unfold idxQ at h
  split at h
  · split at h
    · rename_i m hm
      have hj := hm
      unfold natQ at hm
      split at hm
      · simp only [Option.some.injEq] at hm; subst hm
        split at h
        · rename_i ob hob
          rw [bcase] at h
          split at h
          · rename_i hc
            simp only [Bool.and_eq_true, Nat.beq_eq, Nat.blt_eq] at hc
            have e : stF σ _ = some ob := hob
            simp only [idxAV, e]
            rw [if_pos ⟨hc.1, by simp, by simpa using hc.2⟩]
            exact h
          · cases h
        · cases h
      · cases hm
    · cases h
  · split at h
    · rename_i m hm
      unfold natQ at hm
      split at hm
      · simp only [Option.some.injEq] at hm; subst hm
        rw [bcase] at h
        split at h
        · rename_i hc
          rw [Nat.beq_eq] at hc
          simp only [idxAV]
          rw [if_pos ⟨hc, by simp⟩]
          exact h
        · cases h
      · cases hm
    · cases h
  · cases h
theorem idxSQ_eq {x i v : V} (h : idxSQ x i = some v) : idxSV x i = some v := by
  unfold idxSQ at h
  split at h
  · split at h
    · rename_i m hm
      unfold natQ at hm
      split at hm
      · simp only [Option.some.injEq] at hm; subst hm
        simp only [idxSV]
        rw [if_pos (by simp)]
        exact h
      · cases hm
    · cases h
  · cases h
theorem loadQ_eq {σ : Tr (Option Ob)} {agg : Bool} {sz : Nat} {x v : V} (h : loadQ σ agg sz x = some v) : loadV (stF σ) agg sz x = some v := by
  unfold loadQ at h
  split at h
  · split at h
    · rename_i ob hob
      have e : stF σ _ = some ob := hob
      split at h
      · rename_i r hr
        simp only [loadV, e, hr]
        split at h
        · rw [bcase, bcase] at h
          simp only [if_true]
          split at h
          · rename_i hc
            simp only [Bool.and_eq_true, Nat.beq_eq] at hc
            rw [if_pos hc]; exact h
          · rename_i hc
            split at h
            · rename_i hc'
              rw [if_neg (by simpa using hc), if_pos (show _ + sz ≤ _ from Nat.le_of_ble_eq_true hc')]; exact h
            · cases h
        · simpa using h
      · cases h
    · cases h
  · exact h
theorem pure_case {draw : Bool} {call : CallT} {dst : Option Nat} {op : VOp} {cs cs' : CS} {st : St} (hk : okind op = 0) (hok : okOp op = true) (h : SRel K fl R cs st)
    (hr : (compO draw dst op).f call fl cs = some cs') : ∃ v', vpre st.s op ∧ vpure st.σ st.s op = some v' ∧ SRel K fl R cs' ⟨putO st.s dst v', st.σ⟩ := by
  have key : ∃ v, vpre cs.sf op ∧ vpure (stF cs.σ) cs.sf op = some v ∧ cs' = cs.put dst v := by
    have hp : ∀ (g : CS → Option V), (pureB dst g).f call fl cs = some cs' → ∃ v, g cs = some v ∧ cs' = cs.put dst v := by
      intro g hg
      simp only [pureB] at hg
      split at hg
      · rename_i v hv
        simp only [Option.some.injEq] at hg
        exact ⟨v, hv, hg.symm⟩
      · cases hg
    cases op <;> simp only [okind, reduceCtorEq, Nat.reduceEqDiff] at hk <;> simp only [compO] at hr
    case mov x =>
      simp only [movB, Option.some.injEq] at hr
      exact ⟨_, trivial, rfl, hr.symm⟩
    case bin op x y =>
      have hr' : (pureB dst fun cs => binQ op (intBinQ op).f (y.ev cs.sf) (x.ev cs.sf)).f call fl cs = some cs' := hr
      obtain ⟨v, h1, h2⟩ := hp _ hr'
      obtain ⟨h3, h4⟩ := binQ_eq h1
      exact ⟨v, h3, h4, h2⟩
    case pick c a b =>
      obtain ⟨v, h1, h2⟩ := hp _ hr
      refine ⟨v, trivial, ?_, h2⟩
      simp only [vpure]
      unfold pickQ at h1
      split at h1
      · rename_i t ht
        rw [bcase] at h1
        rw [ht]
        exact h1
      · cases h1
    case not x =>
      obtain ⟨v, h1, h2⟩ := hp _ hr
      refine ⟨v, trivial, ?_, h2⟩
      simp only [vpure]
      unfold notQ at h1
      split at h1
      · rename_i t ht; rw [ht]; exact h1
      · cases h1
    case neg x =>
      obtain ⟨v, h1, h2⟩ := hp _ hr
      unfold negQ at h1
      split at h1
      · rename_i k t ht
        obtain ⟨h3, h4⟩ := gI_eq h1
        exact ⟨v, by simp only [vpre, ht]; exact h4, by simp only [vpure, ht, h3], h2⟩
      · cases h1
    case convI k x =>
      obtain ⟨v, h1, h2⟩ := hp _ hr
      unfold convQ at h1
      split at h1
      · rename_i k t ht
        obtain ⟨h3, h4⟩ := gI_eq h1
        exact ⟨v, by simp only [vpre, ht]; exact h4, by simp only [vpure, ht, h3], h2⟩
      · cases h1
    case idxA => obtain ⟨v, h1, h2⟩ := hp _ hr; exact ⟨v, trivial, idxQ_eq h1, h2⟩
    case idxS => obtain ⟨v, h1, h2⟩ := hp _ hr; exact ⟨v, trivial, idxSQ_eq h1, h2⟩
    case load => obtain ⟨v, h1, h2⟩ := hp _ hr; exact ⟨v, trivial, loadQ_eq h1, h2⟩
    all_goals (obtain ⟨v, h1, h2⟩ := hp _ hr; exact ⟨v, trivial, h1, h2⟩)
  obtain ⟨v, h1, h2, rfl⟩ := key
  obtain ⟨h3, v', h4, h5⟩ := vpure_rel h.mem.live h.slot hok h1 h2
  exact ⟨v', h3, h4, h.put h5⟩
theorem srcRows_rel {σc σ : Store} (hm : Lv R σc σ) {sz : Nat} {x x' : V} {l : List V} (hx : VRel R x x') (h : srcRows σc sz x = some l) : ∃ l', srcRows σ sz x' = some l' ∧ VRelL R l l' := by
  unfold srcRows at h
  split at h
  · simp only [VRel] at hx
    obtain ⟨a, rfl, ha⟩ := hx
    split at h
    · rename_i ob hob
      obtain ⟨rows', h1, h2⟩ := hm _ _ _ ha hob
      split at h
      · rename_i hc
        simp only [Option.some.injEq] at h; subst h
        refine ⟨_, ?_, (h2.drop _).take _⟩
        simp only [srcRows, h1, h2.length]
        rw [if_pos hc]
      · cases h
    · cases h
  · simp only [VRel] at hx
    obtain ⟨rows', rfl, hr⟩ := hx
    split at h
    · rename_i hc
      simp only [Option.some.injEq] at h; subst h
      exact ⟨rows', by simp [srcRows, hc], hr⟩
    · cases h
  · simp only [VRel] at hx; subst hx
    simp only [Option.some.injEq] at h; subst h
    exact ⟨[], rfl, by simp [VRelL]⟩
  · rename_i s
    simp only [VRel] at hx; subst hx
    refine ⟨l, h, ?_⟩
    split at h
    · simp only [Option.some.injEq] at h; subst h
      induction s with
      | nil => simp [VRelL]
      | cons b s ih => simp only [List.map_cons, VRelL]; exact ⟨_, _, rfl, by simp [VRel], ih⟩
    · cases h
  · cases h
theorem dstRows_rel {σc σ : Store} (hm : Lv R σc σ) {e sz : Nat} {x x' : V} {l : List V} {d : Option Nat} (hx : VRel R x x') (h : dstRows σc e sz x = some (l, d)) :
    ∃ l' d', dstRows σ e sz x' = some (l', d') ∧ VRelL R l l' ∧ (d = none ∧ d' = none ∨ ∃ c a o, d = some c ∧ d' = some a ∧ R c a ∧ σc c = some o) := by
  unfold dstRows at h
  split at h
  · simp only [VRel] at hx
    obtain ⟨a, rfl, ha⟩ := hx
    split at h
    · rename_i ob hob
      obtain ⟨rows', h1, h2⟩ := hm _ _ _ ha hob
      split at h
      · rename_i hc
        simp only [Option.some.injEq, Prod.mk.injEq] at h
        obtain ⟨rfl, rfl⟩ := h
        refine ⟨_, some a, ?_, h2.take _, .inr ⟨_, a, ob, rfl, rfl, ha, hob⟩⟩
        simp only [dstRows, h1, h2.length]
        rw [if_pos hc]
      · cases h
    · cases h
  · simp only [VRel] at hx; subst hx
    simp only [Option.some.injEq, Prod.mk.injEq] at h
    obtain ⟨rfl, rfl⟩ := h
    exact ⟨[], none, rfl, by simp [VRelL], .inl ⟨rfl, rfl⟩⟩
  · cases h
theorem addRow_rel {dst : Option Nat} {cs cs' : CS} {st : St} (h : SRel K fl R cs st) {m : Mk} {rows' : List V} {d' : Option Nat} (hrows : VRelL R m.ob.rows rows')
    (hd : m.gone = none ∧ d' = none ∨ ∃ c a o, m.gone = some c ∧ d' = some a ∧ R c a ∧ stF cs.σ c = some o) (hr : addRow fl dst cs m = some cs') {id : Nat} (hid : st.σ id = none) :
    ∃ R', (∀ a b, R a b → R' a b) ∧ SRel K fl R' cs' ⟨putO st.s dst (if m.var then .ptr id 0 0 else .own id 0 m.len), upd (delO st.σ d') id ⟨m.ob.elem, m.ob.sz, rows'⟩⟩ := by
  refine ⟨ext R cs.nxt id, ext_le _ _, ?_⟩
  have hval : VRel (ext R cs.nxt id) (@Bool.casesOn (fun _ => V) m.var (.own cs.nxt 0 m.len) (.ptr cs.nxt 0 0)) (if m.var then .ptr id 0 0 else .own id 0 m.len) := by
    cases m.var
    · simp only [VRel, Bool.false_eq_true, if_false]; exact ⟨id, rfl, .inr ⟨rfl, rfl⟩⟩
    · simp only [VRel, if_true]; exact ⟨id, rfl, .inr ⟨rfl, rfl⟩⟩
  have hslot : ∀ i, VRel (ext R cs.nxt id) (cs.sf i) (st.s i) := fun i => VRel.mono (ext_le _ _) _ _ (h.slot i)
  unfold addRow at hr
  rcases hd with ⟨e1, rfl⟩ | ⟨c, a, o, e1, rfl, hR, ho⟩
  · rw [e1] at hr
    simp only [Option.some.injEq] at hr
    subst hr
    have hm := h.mem.new hid hrows
    have hS : SRel K fl (ext R cs.nxt id) ⟨cs.s, setP none (some m.ob) cs.nxt cs.σ, Nat.succ cs.nxt⟩ ⟨st.s, upd st.σ id ⟨m.ob.elem, m.ob.sz, rows'⟩⟩ :=
      ⟨hslot, by simp only [stF_set]; exact hm⟩
    exact hS.put hval
  · rw [e1] at hr
    simp only [bcase] at hr
    split at hr
    · rename_i hf
      simp only [Option.some.injEq] at hr
      subst hr
      have h1 := h.mem.rem hR ho (Nat.le_of_ble_eq_true hf)
      have hid' : del st.σ a id = none := by
        by_cases e : id = a
        · simp [del, e]
        · rw [del_ne e]; exact hid
      have hm := h1.new hid' hrows
      have hS : SRel K fl (ext R cs.nxt id) ⟨cs.s, setP none (some m.ob) cs.nxt (setP none none c cs.σ), Nat.succ cs.nxt⟩ ⟨st.s, upd (del st.σ a) id ⟨m.ob.elem, m.ob.sz, rows'⟩⟩ :=
        ⟨hslot, by simp only [stF_set, stF_del]; exact hm⟩
      rw [bcase] at hval
      exact hS.put hval
    · cases hr
theorem row_case {draw : Bool} {call : CallT} {dst : Option Nat} {op : VOp} {cs cs' : CS} {st : St} (hk : okind op = 3) (hok : okOp op = true) (h : SRel K fl R cs st)
    (hr : (compO draw dst op).f call fl cs = some cs') : ∃ g', eff st.s st.σ op = some g' ∧ ∀ id, st.σ id = none → ∃ R', (∀ a b, R a b → R' a b) ∧
      SRel K fl R' cs' ⟨putO st.s dst (g' id).1, (g' id).2⟩ := by
  have hp : ∀ (g : CS → Option Mk), (rowB dst g).f call fl cs = some cs' → ∃ m, g cs = some m ∧ addRow fl dst cs m = some cs' := by
    intro g hg
    simp only [rowB] at hg
    split at hg
    · rename_i v hv
      exact ⟨v, hv, hg⟩
    · cases hg
  simp only [okOp, Bool.and_eq_true] at hok
  have hx := List.all_eq_true.1 hok.1
  cases op <;> simp only [okind, reduceCtorEq, Nat.reduceEqDiff] at hk <;> simp only [compO] at hr
  case more m xs => cases m <;> simp at hk
  case alloc e sz z =>
    obtain ⟨m, h1, h2⟩ := hp _ hr
    simp only [Option.some.injEq] at h1; subst h1
    refine ⟨_, rfl, fun id hid => ?_⟩
    have := addRow_rel (d' := none) h (VRelL.one (noid_refl (R := R) z hok.2)) (.inl ⟨rfl, rfl⟩) h2 hid
    simpa [delO] using this
  case box e sz x =>
    obtain ⟨m, h1, h2⟩ := hp _ hr
    have hv := ev_rel h.slot (hx x (by simp [VOp.xs]))
    unfold boxQ at h1
    rw [bcase] at h1
    split at h1
    · rename_i hc
      simp only [Bool.and_eq_true, Nat.beq_eq] at hc
      simp only [Option.some.injEq] at h1; subst h1
      refine ⟨fun id => (.ptr id 0 0, upd st.σ id ⟨e, sz, [x.ev st.s]⟩), ?_, fun id hid => ?_⟩
      · simp only [eff]
        rw [if_pos ⟨by rw [hv.cells.length]; exact hc.1, by rw [hv.stays]; exact hc.2⟩]
      · have := addRow_rel (d' := none) h (VRelL.one hv) (.inl ⟨rfl, rfl⟩) h2 hid
        simpa [delO] using this
    · cases h1
  case appz => simp [pureB, vpure] at hr
  case mk e sz bytes z x =>
    obtain ⟨m, h1, h2⟩ := hp _ hr
    have hv := ev_rel h.slot (hx x (by simp [VOp.xs]))
    unfold mkQ at h1
    split at h1
    · rename_i kk mm hxe
      rw [hxe] at hv
      simp only [VRel] at hv
      split at h1
      · split at h1
        · rename_i j hj
          rw [bcase] at h1
          split at h1
          · rename_i hc
            simp only [Option.some.injEq] at h1; subst h1
            have hmj : mm = (j : Int) := by
              cases mm <;> simp only [natQ, Option.some.injEq, reduceCtorEq] at hj
              subst hj; rfl
            subst hmj
            refine ⟨fun id => (.own id 0 j, upd st.σ id ⟨e, sz, List.replicate j z⟩), ?_, fun id hid => ?_⟩
            · simp only [eff]
              rw [hv]
              have hc' : j * (bytes + 1) ≤ 140737488355328 := Nat.le_of_ble_eq_true hc
              simp only [Int.toNat_natCast]
              rw [if_pos ⟨by omega, hc'⟩]
            · have := addRow_rel (d' := none) h (VRelL.replicate (noid_refl (R := R) z hok.2) j) (.inl ⟨rfl, rfl⟩) h2 hid
              simpa [delO] using this
          · cases h1
        · cases h1
      · cases h1
    · cases h1
  case bslice e sz xs =>
    obtain ⟨m, h1, h2⟩ := hp _ hr
    have hv := evs_rel h.slot hok.1
    simp only [VOp.xs] at hv
    unfold bsliceQ at h1
    rw [bcase] at h1
    split at h1
    · rename_i hc
      simp only [Option.some.injEq] at h1; subst h1
      refine ⟨fun id => (.own id 0 xs.length, upd st.σ id ⟨e, sz, xs.map (·.ev st.s)⟩), ?_, fun id hid => ?_⟩
      · simp only [eff]
        rw [if_pos]
        rw [List.all_eq_true]
        intro y hy
        rw [List.mem_map] at hy
        obtain ⟨x, hxx, rfl⟩ := hy
        have hvx := ev_rel h.slot (hx x (by simp [VOp.xs, hxx]))
        have := List.all_eq_true.1 hc (x.ev cs.sf) (List.mem_map.2 ⟨x, hxx, rfl⟩)
        simp only [Bool.and_eq_true, Nat.beq_eq] at this
        simp [hvx.cells.length, hvx.stays, this]
      · have := addRow_rel (d' := none) h hv (.inl ⟨rfl, rfl⟩) h2 hid
        simpa [delO] using this
    · cases h1
  case append e sz bytes xa xb =>
    obtain ⟨m, h1, h2⟩ := hp _ hr
    have ha := ev_rel h.slot (hx xa (by simp [VOp.xs]))
    have hb := ev_rel h.slot (hx xb (by simp [VOp.xs]))
    unfold appendQ at h1
    split at h1
    · rename_i base idA src e1 e2
      obtain ⟨base', d', g1, g2, g3⟩ := dstRows_rel h.mem.live ha e1
      obtain ⟨src', g4, g5⟩ := srcRows_rel h.mem.live hb e2
      rw [bcase] at h1
      split at h1
      · rename_i hc
        simp only [Option.some.injEq] at h1; subst h1
        refine ⟨fun id => (.own id 0 (base'.length + src'.length), upd (delO st.σ d') id ⟨e, sz, base' ++ src'⟩), ?_, fun id hid => ?_⟩
        · simp only [eff, g1, g4]
          rw [if_pos (by rw [g2.length, g5.length]; exact Nat.le_of_ble_eq_true hc)]
        · have := addRow_rel h (g2.append g5) g3 h2 hid
          simpa [g2.length, g5.length] using this
      · cases h1
    · cases h1
theorem setRowV_rel {r r' x x' q : V} {k sz : Nat} (hr : VRel R r r') (hx : VRel R x x') (h : setRowV r k sz x = some q) : ∃ q', setRowV r' k sz x' = some q' ∧ VRel R q q' := by
  unfold setRowV at h
  split at h
  · rename_i hc
    have hc' : x'.cells.length = sz ∧ x'.stays = true := ⟨by rw [hx.cells.length]; exact hc.1, by rw [hx.stays]; exact hc.2⟩
    split at h
    · rename_i hd
      simp only [Option.some.injEq] at h; subst h
      refine ⟨x', ?_, hx⟩
      unfold setRowV
      rw [if_pos hc', if_pos ⟨hd.1, by rw [hr.cells.length]; exact hd.2⟩]
    · rename_i hd
      split at h
      · rename_i he
        simp only [Option.some.injEq] at h; subst h
        refine ⟨_, ?_, VRel.agg (((hr.cells.take k).append hx.cells).append (hr.cells.drop (k + sz)))⟩
        unfold setRowV
        rw [if_pos hc', if_neg (by rw [hr.cells.length]; exact hd), if_pos (by rw [hr.cells.length]; exact he)]
      · cases h
  · cases h
theorem store_case {dst : Option Nat} {sz : Nat} {xa xv : VX} {call : CallT} {cs cs' : CS} {st : St} (hok : okOp (.store sz xa xv) = true) (h : SRel K fl R cs st)
    (hr : (storeB dst sz xa xv).f call fl cs = some cs') : ∃ σ', storeS st.σ sz (xa.ev st.s) (xv.ev st.s) = some σ' ∧ SRel K fl R cs' ⟨putO st.s dst (.tup []), σ'⟩ := by
  simp only [okOp, VOp.xs, List.all_cons, List.all_nil, Bool.and_true, Bool.and_eq_true] at hok
  have ha := ev_rel h.slot hok.1
  have hv := ev_rel h.slot hok.2
  simp only [storeB, storeIn] at hr
  split at hr
  · rename_i id i0 c hptr
    rw [hptr] at ha
    simp only [VRel] at ha
    obtain ⟨a, ha1, ha2⟩ := ha
    rw [brec] at hr
    split at hr
    · rename_i hf
      split at hr
      · rename_i ob hob
        have hob' : stF cs.σ id = some ob := hob
        obtain ⟨rows', h1, h2⟩ := h.mem.live _ _ _ ha2 hob'
        split at hr
        · rename_i r hrr
          obtain ⟨r', h3, h4⟩ := h2.get hrr
          split at hr
          · rename_i q hq
            obtain ⟨q', h5, h6⟩ := setRowV_rel h4 hv hq
            simp only [Option.some.injEq] at hr
            subst hr
            refine ⟨upd st.σ a ⟨ob.elem, ob.sz, rows'.set i0 q'⟩, ?_, ?_⟩
            · simp only [storeS, ha1, h1, h3, h5]
            · have hm := h.mem.write ha2 hob' (Nat.le_of_ble_eq_true hf) (h2.set i0 h6)
              have hS : SRel K fl R ⟨cs.s, setP none (some ⟨ob.elem, ob.sz, ob.rows.set i0 q⟩) id cs.σ, cs.nxt⟩ ⟨st.s, upd st.σ a ⟨ob.elem, ob.sz, rows'.set i0 q'⟩⟩ :=
                ⟨h.slot, by simp only [stF_set]; exact hm⟩
              exact hS.put VRel.nilt
          · cases hr
        · cases hr
      · cases hr
    · cases hr
  · cases hr
end Go.Vc
namespace Go.Vc
variable {P : Program} {n : Nat}
def Le (R R' : Nat → Nat → Prop) : Prop := ∀ a b, R a b → R' a b
theorem Le.refl (R : Nat → Nat → Prop) : Le R R := fun _ _ h => h
theorem Le.trans {R R' R'' : Nat → Nat → Prop} (h : Le R R') (h' : Le R' R'') : Le R R'' := fun a b g => h' a b (h a b g)
def CallOk (P : Program) (call : CallT) : Prop := ∀ g args σc nxt fl r, call g args σc nxt fl = some r → ∀ (K : Store) (R : Nat → Nat → Prop) (σ : Store) (args' : List V),
  MRel K fl R (stF σc) nxt σ → VRelL R args args' → Contract P g args' σ fun v σ' => ∃ R', Le R R' ∧ VRel R' r.v v ∧ MRel K fl R' (stF r.σ) r.nxt σ'
theorem Contract.drop {f : FuncId} {args : List V} {σ : Store} {Post Post' : V → Store → Prop} (h : Contract P f args σ Post)
    (hp : ∀ r σ', Post r σ' → ∃ σ0, SubStore σ0 σ' ∧ Post' r σ0) : Contract P f args σ Post' := by
  refine ⟨h.1, fun μ w vals hs hr => (h.2 μ w vals hs hr).mono ?_⟩
  rintro e w' ⟨r, σ', μ', val, h1, h2, h3, h4, h5⟩
  obtain ⟨σ0, h6, h7⟩ := hp r σ' h2
  exact ⟨r, σ0, μ', val, h1, h7, h3, h4.drop h6, Wk.refl h6 r μ' _ _ _ val h4 h5⟩
section
variable {call : CallT} {K : Store} {fl : Nat} {R : Nat → Nat → Prop} {cs cs' : CS} {st : St} {Q : St → Prop} {k : List It}
theorem compI_split {draw : Bool} {i : VIns} (hok : okIns i = true) (h : SRel K fl R cs st) (hr : (compI draw i).f call fl cs = some cs') :
    (wantV st.s i.g = some true ∧ (compO draw i.dst i.op).f call fl cs = some cs') ∨ (wantV st.s i.g = some false ∧ cs' = cs.put i.dst (.tup [])) := by
  simp only [okIns, Bool.and_eq_true] at hok
  unfold compI at hr
  split at hr
  · rename_i hg
    exact .inl ⟨by simp [hg, wantV], hr⟩
  · rename_i x b hg
    have hx := hok.2
    simp only [hg] at hx
    have hv := ev_rel h.slot hx
    simp only [guardB] at hr
    split at hr
    · rename_i c hc
      rw [hc, VRel.bool_iff] at hv
      rw [brec] at hr
      split at hr
      · rename_i hcb
        simp only [Option.some.injEq] at hr
        refine .inr ⟨?_, hr.symm⟩
        simp only [hg, wantV, hv]
        cases c <;> cases b <;> simp_all
      · rename_i hcb
        refine .inl ⟨?_, hr⟩
        simp only [hg, wantV, hv]
        cases c <;> cases b <;> simp_all
    · rename_i hc
      rw [hc] at hv
      simp only [VRel, VRelL] at hv
      obtain ⟨c', hv, rfl⟩ := hv
      simp only [Option.some.injEq] at hr
      exact .inr ⟨by simp only [hg, wantV, hv], hr.symm⟩
    · rename_i hc
      rw [hc, VRel.int_iff] at hv
      simp only [Option.some.injEq] at hr
      exact .inr ⟨by simp only [hg, wantV, hv], hr.symm⟩
    · cases hr
theorem bad_not {draw : Bool} {dst : Option Nat} {op : VOp} (h : op = .bad ∨ (∃ b x, op = .rngS b x) ∨ (∃ x, op = .nxtS x) ∨ ∃ m xs, op = .more m xs ∧ okind op = 4) (hr : (compO draw dst op).f call fl cs = some cs') : False := by
  rcases h with rfl | ⟨b, x, rfl⟩ | ⟨x, rfl⟩ | ⟨m, xs, rfl, hk⟩
  case inr.inr.inr => cases m <;> simp [okind] at hk <;> simp [compO, pureB, vpure] at hr
  all_goals simp [compO, pureB, vpure] at hr
theorem okind_cases (op : VOp) : okind op = 0 ∨ (∃ fx xs, op = .call fx xs) ∨ (∃ sz a x, op = .store sz a x) ∨ okind op = 3 ∨ (∃ sz z x, op = .clear sz z x) ∨ (op = .bad ∨ (∃ b x, op = .rngS b x) ∨ (∃ x, op = .nxtS x) ∨ ∃ m xs, op = .more m xs ∧ okind op = 4) := by
  cases op
  case more m xs => cases m <;> simp [okind]
  all_goals simp [okind]
theorem ins_run (hc : CallOk P call) {i : VIns} {l : List VIns} (hok : okIns i = true) (h : SRel K fl R cs st) (hr : (compI false i).f call fl cs = some cs')
    (hk : ∀ R' st', Le R R' → SRel K fl R' cs' st' → Runs P n (.ops l :: k) st' Q) : Runs P n (.ops (i :: l) :: k) st Q := by
  have hop : okOp i.op = true := by simp only [okIns, Bool.and_eq_true] at hok; exact hok.1
  rcases compI_split hok h hr with ⟨hw, hr⟩ | ⟨hw, rfl⟩
  · rcases okind_cases i.op with h0 | ⟨fx, xs, h0⟩ | ⟨sz, a, x, h0⟩ | h0 | ⟨sz, z, x, h0⟩ | h0
    · obtain ⟨v', h1, h2, h3⟩ := pure_case h0 hop h hr
      exact Runs.pure hw h1 h2 (hk R _ (Le.refl R) h3)
    · rw [h0] at hr hop
      simp only [compO, callB] at hr
      simp only [okOp, VOp.xs, List.all_cons, Bool.and_eq_true] at hop
      split at hr
      · rename_i f caps hf
        have hfx := ev_rel h.slot hop.1.1
        rw [hf] at hfx
        simp only [VRel] at hfx
        obtain ⟨caps', hf', hcaps⟩ := hfx
        generalize hcl : call f (xs.map (·.ev cs.sf) ++ caps) cs.σ cs.nxt fl = r at hr
        cases r with
        | none => simp [callIn] at hr
        | some r =>
          simp only [callIn, Option.some.injEq] at hr
          refine Runs.call hw h0 hf' (hc _ _ _ _ _ _ hcl K R st.σ _ h.mem ((evs_rel h.slot hop.1.2).append hcaps)) ?_
          rintro v σ' ⟨R', hle, hv, hm⟩
          have hS : SRel K fl R' ⟨cs.s, r.σ, r.nxt⟩ ⟨st.s, σ'⟩ := ⟨fun j => VRel.mono hle _ _ (h.slot j), hm⟩
          exact hk R' _ hle (hr ▸ hS.put hv)
      · cases hr
    · rw [h0] at hr hop
      obtain ⟨σ', h1, h2⟩ := store_case hop h hr
      exact Runs.storeS hw h0 h1 (hk R _ (Le.refl R) h2)
    · obtain ⟨g', h1, h2⟩ := row_case h0 hop h hr
      refine Runs.eff hw h1 fun id hid => ?_
      obtain ⟨R', h3, h4⟩ := h2 id hid
      exact hk R' _ h3 h4
    · rw [h0] at hr hop
      simp only [compO, clearB, clearIn] at hr
      simp only [okOp, VOp.xs, List.all_cons, List.all_nil, Bool.and_true, Bool.and_eq_true] at hop
      have hx := ev_rel h.slot hop.1
      split at hr
      · rename_i id off len hid
        rw [hid] at hx
        simp only [VRel] at hx
        obtain ⟨a, ha1, ha2⟩ := hx
        rw [brec] at hr
        split at hr
        · rename_i hf
          split at hr
          · rename_i ob hob
            have hob' : stF cs.σ id = some ob := hob
            obtain ⟨rows', g1, g2⟩ := h.mem.live _ _ _ ha2 hob'
            rw [brec] at hr
            split at hr
            · rename_i hcc
              simp only [Bool.and_eq_true, Nat.beq_eq, Nat.ble_eq] at hcc
              simp only [Option.some.injEq] at hr
              refine Runs.clear hw h0 ha1 g1 hcc.1 (by rw [g2.length]; exact hcc.2) ?_
              have hm := h.mem.write ha2 hob' (Nat.le_of_ble_eq_true hf) (((g2.take off).append (VRelL.replicate (noid_refl (R := R) z hop.2) len)).append (g2.drop (off + len)))
              have hS : SRel K fl R ⟨cs.s, setP none (some ⟨ob.elem, ob.sz, ob.rows.take off ++ List.replicate len z ++ ob.rows.drop (off + len)⟩) id cs.σ, cs.nxt⟩
                  ⟨st.s, upd st.σ a ⟨ob.elem, ob.sz, rows'.take off ++ List.replicate len z ++ rows'.drop (off + len)⟩⟩ := ⟨h.slot, by simp only [stF_set]; exact hm⟩
              exact hk R _ (Le.refl R) (hr ▸ hS.put VRel.nilt)
            · cases hr
          · cases hr
        · cases hr
      · cases hr
    · exact (bad_not h0 hr).elim
  · exact Runs.skipIns hw (hk R _ (Le.refl R) (h.put VRel.nilt))
end
def Then (P : Program) (n : Nat) (K : Store) (fl : Nat) (R : Nat → Nat → Prop) (k : List It) (Q : St → Prop) : Out → Prop
  | .nx cs => ∀ R' st, Le R R' → SRel K fl R' cs st → Runs P n k st Q
  | .ex id cs => ∃ k', popTo id k = some k' ∧ ∀ R' st, Le R R' → SRel K fl R' cs st → Runs P n k' st Q
  | .rt cs => ∀ R' st, Le R R' → SRel K fl R' cs st → Q st
  | .bad => False
theorem Then.le {K : Store} {fl : Nat} {R R' : Nat → Nat → Prop} {k : List It} {Q : St → Prop} {o : Out} (h : Then P n K fl R k Q o) (hle : Le R R') : Then P n K fl R' k Q o := by
  cases o
  case bad => exact h
  case ex => obtain ⟨k', h1, h2⟩ := h; exact ⟨k', h1, fun R'' st h3 h4 => h2 R'' st (hle.trans h3) h4⟩
  all_goals exact fun R'' st h3 h4 => h R'' st (hle.trans h3) h4
theorem ofL_get (i : Nat) : ∀ (l : List V) (k : Nat) (t : Tr V), getP (.tup []) i (Tr.ofL l k t) = if k ≤ i ∧ i < k + l.length then l.getD (i - k) (.tup []) else getP (.tup []) i t
  | [], k, t => by simp [Tr.ofL]; intro h1 h2; omega
  | v :: l, k, t => by
    rw [Tr.ofL, ofL_get i l (k + 1), getP_set]
    simp only [List.length_cons]
    by_cases h1 : i = k
    · subst h1
      rw [if_neg (by omega), if_pos rfl, if_pos (by omega)]
      simp
    · by_cases h2 : k + 1 ≤ i ∧ i < k + 1 + l.length
      · rw [if_pos h2, if_pos (by omega), show i - k = (i - (k + 1)) + 1 by omega]
        simp
      · rw [if_neg h2, if_neg h1, if_neg (by omega)]
theorem resOne_rel {K : Store} {fl : Nat} {R : Nat → Nat → Prop} {cs : CS} {st : St} (h : SRel K fl R cs st) {r : VR} (hok : okRes r = true) {v : V} (hv : resOne ⟨cs.sf, stF cs.σ⟩ r = some v) :
    ∃ v', resOne st r = some v' ∧ VRel R v v' := by
  cases r <;> simp only [resOne, reduceCtorEq, Option.some.injEq] at hv ⊢
  case tmp x => subst hv; exact ⟨_, rfl, ev_rel h.slot hok⟩
  case cell agg sz x => exact loadV_rel h.mem.live (ev_rel h.slot hok) hv
theorem resAll_rel {K : Store} {fl : Nat} {R : Nat → Nat → Prop} {cs : CS} {st : St} (h : SRel K fl R cs st) : ∀ {l : List VR}, l.all okRes = true → ∀ {vs : List V}, resAll ⟨cs.sf, stF cs.σ⟩ l = some vs →
    ∃ vs', resAll st l = some vs' ∧ VRelL R vs vs'
  | [], _, vs, hv => by simp only [resAll, Option.some.injEq] at hv; subst hv; exact ⟨[], rfl, by simp [VRelL]⟩
  | r :: l, hok, vs, hv => by
    simp only [List.all_cons, Bool.and_eq_true] at hok
    simp only [resAll] at hv
    split at hv
    · rename_i v h1
      split at hv
      · rename_i us h2
        simp only [Option.some.injEq] at hv; subst hv
        obtain ⟨v', g1, g2⟩ := resOne_rel h hok.1 h1
        obtain ⟨us', g3, g4⟩ := resAll_rel h hok.2 h2
        exact ⟨v' :: us', by simp [resAll, g1, g3], VRelL.cons_iff.2 ⟨v', us', rfl, g2, g4⟩⟩
      · cases hv
    · cases hv
theorem resV_rel {K : Store} {fl : Nat} {R : Nat → Nat → Prop} {cs : CS} {st : St} (h : SRel K fl R cs st) {l : List VR} (hok : l.all okRes = true) {v : V} (hv : resV ⟨cs.sf, stF cs.σ⟩ l = some v) :
    ∃ v', resV st l = some v' ∧ VRel R v v' := by
  unfold resV at hv
  cases hr : resAll ⟨cs.sf, stF cs.σ⟩ l with
  | none => simp [hr] at hv
  | some vs =>
    obtain ⟨vs', g1, g2⟩ := resAll_rel h hok hr
    rw [hr] at hv
    unfold resV
    rw [g1]
    match vs, hv, g2 with
    | [], hv, g2 =>
      rw [VRelL.nil_iff] at g2; subst g2
      simp only [Option.some.injEq] at hv; subst hv
      exact ⟨_, rfl, by simp [VRel, VRelL]⟩
    | [u], hv, g2 =>
      obtain ⟨x, xs, rfl, g3, g4⟩ := VRelL.cons_iff.1 g2
      rw [VRelL.nil_iff] at g4; subst g4
      simp only [Option.some.injEq] at hv; subst hv
      exact ⟨_, rfl, g3⟩
    | u1 :: u2 :: us, hv, g2 =>
      obtain ⟨x, xs, rfl, g3, g4⟩ := VRelL.cons_iff.1 g2
      obtain ⟨y, ys, rfl, g5, g6⟩ := VRelL.cons_iff.1 g4
      simp only [Option.some.injEq] at hv; subst hv
      exact ⟨_, rfl, by simp only [VRel]; exact ⟨_, rfl, g2⟩⟩
end Go.Vc
namespace Go.Vc
theorem eqQ_iff {a b : Int} (h : eqQ a b = true) : a = b := by
  cases a <;> cases b <;> simp only [eqQ, Bool.false_eq_true] at h
  · rw [Nat.eq_of_beq_eq_true h]
  · rw [Nat.eq_of_beq_eq_true h]
end Go.Vc
namespace Go.Vc
open Go.RowKit
variable {P : Program} {n : Nat} {st : St} {Q : St → Prop} {k : List It} {μ : Mu} {w : World}
theorem cop_inv {o : Op} {tbl : List (TypeId × FuncId)} {xs : List VX} (h : cop P n o = .more (.inv tbl) xs) : ∃ r name args argTypes, o = .call { callee := .invoke r name, args := args, argTypes := argTypes } ∧
    tbl = invTbl P name ∧ xs = cx n r :: args.toList.map (cx n) := by
  cases o
  case call c =>
    obtain ⟨callee, args, argTypes⟩ := c
    cases callee
    case value => simp [cop] at h
    case invoke r name =>
      simp only [cop, VOp.more.injEq, MOp.inv.injEq] at h
      exact ⟨r, name, args, argTypes, rfl, h.1.symm, h.2.symm⟩
    case builtin b => cases b <;> (simp only [cop, nilB] at h; (repeat' split at h) <;> cases h)
  case unOp op t x => cases op <;> simp only [cop, nilB] at h <;> cases h
  case makeFunc f a b => cases f <;> simp only [cop, nilB] at h <;> (repeat' split at h) <;> cases h
  all_goals (simp only [cop, nilB] at h; (repeat' split at h) <;> cases h)
theorem invTbl_get {name : String} {t : TypeId} {f : FuncId} (h : (invTbl P name).lookup t = some f) : invOf P name t = some f ∧ t < P.types.size := by
  unfold invTbl at h
  have key : ∀ l : List Nat, (l.filterMap fun t => (invOf P name t).map fun f => (t, f)).lookup t = some f → invOf P name t = some f ∧ t ∈ l := by
    intro l
    induction l with
    | nil => intro h; simp at h
    | cons a l ih =>
      intro h
      rw [List.filterMap_cons] at h
      cases ha : invOf P name a with
      | none =>
        rw [ha] at h
        simp only [Option.map_none] at h
        obtain ⟨h1, h2⟩ := ih h
        exact ⟨h1, List.mem_cons_of_mem _ h2⟩
      | some g =>
        rw [ha] at h
        simp only [Option.map_some, List.lookup_cons] at h
        by_cases e : t = a
        · subst e
          simp at h
          subst h
          exact ⟨ha, by simp⟩
        · have : (t == a) = false := by simpa using e
          rw [this] at h
          obtain ⟨h1, h2⟩ := ih h
          exact ⟨h1, List.mem_cons_of_mem _ h2⟩
  obtain ⟨h1, h2⟩ := key _ h
  exact ⟨h1, by simpa using h2⟩
theorem run_method {name : String} {t : TypeId} {f : FuncId} (h : invOf P name t = some f) (fuel : Nat) (v : Value) : (method (fuel + 1) t v name).run P w = .ok (f, v) w := by
  unfold invOf at h
  cases hi : P.info? t with
  | none => rw [hi] at h; cases h
  | some i =>
    rw [hi] at h
    simp only at h
    cases hm : i.methods.find? (·.name == name) with
    | none => rw [hm] at h; cases h
    | some m =>
      rw [hm] at h
      simp only at h
      split at h
      · rename_i hp
        have hp' : m.path.toList = [] := by simpa using hp
        cases hf : m.func with
        | none => rw [hf] at h; simp at h
        | some fp =>
          obtain ⟨f0, pr⟩ := fp
          rw [hf] at h
          cases hu : P.underlying t with
          | none => rw [hu] at h; cases pr <;> simp at h
          | some d =>
            rw [hu] at h
            cases pr
            · cases d
              case pointer e => simp at h
              all_goals
                simp only [Option.some.injEq] at h
                subst h
                simp [method, typeInfo, hi, hm, follow, hp', hf, receiverAt, run_underlying hu, Place.get]
            · cases d
              case pointer e =>
                simp only [Option.some.injEq] at h
                subst h
                simp [method, typeInfo, hi, hm, follow, hp', hf, receiverAt, run_underlying hu, Place.get]
              all_goals simp at h
      · cases h
theorem Runs.inv {i : VIns} {l : List VIns} {tbl : List (TypeId × FuncId)} {rx : VX} {xs : List VX} (hw : wantV st.s i.g = some true) (ho : i.op = .more (.inv tbl) (rx :: xs)) {t : TypeId} {v : V} (hr : rx.ev st.s = .iface t v)
    {f : FuncId} (hf : tbl.lookup t = some f) {Post : V → Store → Prop} (hc : Contract P f (v :: xs.map (·.ev st.s)) st.σ Post)
    (h : ∀ r σ', Post r σ' → Runs P n (.ops l :: k) ⟨putO st.s i.dst r, σ'⟩ Q) : Runs P n (.ops (i :: l) :: k) st Q := by
  refine Runs.ins (by rw [ho]; simp) hw fun F hn μ a w o all hi hs next Q' hnext => ?_
  subst hn
  obtain ⟨hop, hd⟩ := cins_op hi
  rw [ho] at hop
  obtain ⟨r0, name, args, argTypes, g1, rfl, g2⟩ := cop_inv hop
  simp only [List.cons.injEq] at g2
  obtain ⟨rfl, rfl⟩ := g2
  obtain ⟨q1, q2⟩ := invTbl_get hf
  have hfr := rep_cx hs r0
  rw [hr] at hfr
  simp only [Rep] at hfr
  obtain ⟨y, hy, hry⟩ := hfr
  have hargs : RepAll μ (Owned μ st.σ) w (v :: (args.toList.map (cx F.n)).map (·.ev st.s)) (y :: args.toList.map a.eval) := by
    simp only [RepAll]; exact ⟨y, _, rfl, hry, rep_cxs hs args.toList⟩
  have hrun : (execOp a.eval o).run P w = .ok (.enter f ((y :: args.toList.map a.eval).toArray)) w := by
    unfold execOp
    rw [g1]
    have hpos : 0 < P.types.size := Nat.lt_of_le_of_lt (Nat.zero_le _) q2
    obtain ⟨fu, hfu⟩ : ∃ fu, P.types.size + Made.depth = fu + 1 := ⟨P.types.size + Made.depth - 1, by omega⟩
    have hprog : (program : Sem Program).run P w = .ok P w := rfl
    have harr : (#[Value.iface t y] ++ args.map a.eval).extract 1 (#[Value.iface t y] ++ args.map a.eval).size = args.map a.eval := by
      apply Array.ext'
      simp [List.take_of_length_le]
    have hget : (#[Value.iface t y] ++ args.map a.eval)[0]? = some (.iface t y) := by
      rw [Array.getElem?_append_left (by simp)]; rfl
    simp only [resolve, Sem.run_bind, Sem.run_pure, Result.andThen_ok, invoke, hy, hget, harr, callMethod, hprog, hfu, run_method q1]
    have hen := run_callFunc (w := w) hc.1 (#[y] ++ args.map a.eval)
    rw [hen]
    congr 2
    apply Array.ext'
    simp
  unfold Oper.wp
  rw [hrun]
  simp only [Oper.upon]
  have hsat : Sat w (Owned μ st.σ) μ st.σ w := hs.sat.here
  refine (hc.2 μ w _ hsat hargs).mono ?_
  rintro e w' ⟨r, σ', μ', val, rfl, hp, hle, hs', hr'⟩
  obtain ⟨hfin, hkeep⟩ := hs.sat.compose hs'
  refine hnext _ _ _ ⟨μ', ?_⟩ (h r σ' hp)
  rw [← hd]
  exact hs.step hfin hle hkeep hs'.size hr'
end Go.Vc
namespace Go.Vc
def fzLQ (g : V → Option V) : List V → Option (List V)
  | [] => some []
  | v :: vs => match g v with
    | some u => (match fzLQ g vs with
      | some us => some (u :: us)
      | none => none)
    | none => none
def fzQ : Nat → Tr (Option Ob) → V → Option V
  | 0, _, _ => none
  | f + 1, σ, v => match v with
    | .own id off len => match getP none id σ with
      | some ob => @Bool.casesOn (fun _ => Option V) (Nat.ble (off + len) ob.rows.length) none ((fzLQ (fzQ f σ) ((ob.rows.drop off).take len)).map (.sl ob.sz))
      | none => none
    | .ptr id i k => @Bool.casesOn (fun _ => Option V) (Nat.beq k 0) none (match getP none id σ with
      | some ob => (match ob.rows[i]? with
        | some r => (fzQ f σ r).map .rp
        | none => none)
      | none => none)
    | .sl sz rows => (fzLQ (fzQ f σ) rows).map (.sl sz)
    | .agg cs => (fzLQ (fzQ f σ) cs).map .agg
    | .tup cs => (fzLQ (fzQ f σ) cs).map .tup
    | .fn g cs => (fzLQ (fzQ f σ) cs).map (.fn g)
    | .bm g cs => (fzLQ (fzQ f σ) cs).map (.bm g)
    | .iface t u => (fzQ f σ u).map (.iface t)
    | v => @Bool.casesOn (fun _ => Option V) v.noid none (some v)
theorem fzLQ_noid {g : V → Option V} (hg : ∀ v u, g v = some u → u.noid = true) : ∀ {l m : List V}, fzLQ g l = some m → noidL m = true
  | [], m, h => by simp only [fzLQ, Option.some.injEq] at h; subst h; rfl
  | v :: vs, m, h => by
    simp only [fzLQ] at h
    split at h
    · rename_i u hu
      split at h
      · rename_i us hus
        simp only [Option.some.injEq] at h; subst h
        simp only [noidL, hg v u hu, fzLQ_noid hg hus, Bool.and_self]
      · cases h
    · cases h
theorem fzLQ_id {g : V → Option V} (hg : ∀ v u, g v = some u → v.noid = true → u = v) : ∀ {l m : List V}, fzLQ g l = some m → noidL l = true → m = l
  | [], m, h, _ => by simp only [fzLQ, Option.some.injEq] at h; exact h.symm
  | v :: vs, m, h, hn => by
    simp only [noidL, Bool.and_eq_true] at hn
    simp only [fzLQ] at h
    split at h
    · rename_i u hu
      split at h
      · rename_i us hus
        simp only [Option.some.injEq] at h; subst h
        rw [hg v u hu hn.1, fzLQ_id hg hus hn.2]
      · cases h
    · cases h
theorem fzQ_noid : ∀ (f : Nat) (σ : Tr (Option Ob)) (v u : V), fzQ f σ v = some u → u.noid = true
  | 0, _, _, _, h => by simp [fzQ] at h
  | f + 1, σ, v, u, h => by
    have hL : ∀ {l m : List V}, fzLQ (fzQ f σ) l = some m → noidL m = true := fun h => fzLQ_noid (fzQ_noid f σ) h
    cases v <;> simp only [fzQ, bcase] at h
    case own id off len =>
      split at h
      · split at h
        · simp only [Option.map_eq_some_iff] at h
          obtain ⟨m, hm, rfl⟩ := h
          simpa [V.noid] using hL hm
        · cases h
      · cases h
    case ptr id i k =>
      split at h
      · split at h
        · split at h
          · simp only [Option.map_eq_some_iff] at h
            obtain ⟨m, hm, rfl⟩ := h
            simpa [V.noid] using fzQ_noid f σ _ _ hm
          · cases h
        · cases h
      · cases h
    case iface =>
      simp only [Option.map_eq_some_iff] at h
      obtain ⟨m, hm, rfl⟩ := h
      simpa [V.noid] using fzQ_noid f σ _ _ hm
    all_goals first
      | (simp only [Option.map_eq_some_iff] at h
         obtain ⟨m, hm, rfl⟩ := h
         simpa [V.noid] using hL hm)
      | (split at h
         · rename_i hn
           simp only [Option.some.injEq] at h; subst h; exact hn
         · cases h)
theorem fzQ_id : ∀ (f : Nat) (σ : Tr (Option Ob)) (v u : V), fzQ f σ v = some u → v.noid = true → u = v
  | 0, _, _, _, h, _ => by simp [fzQ] at h
  | f + 1, σ, v, u, h, hn => by
    have hL : ∀ {l m : List V}, fzLQ (fzQ f σ) l = some m → noidL l = true → m = l := fun h => fzLQ_id (fzQ_id f σ) h
    cases v <;> simp only [fzQ, bcase] at h
    case own => simp [V.noid] at hn
    case ptr => simp [V.noid] at hn
    case iface =>
      simp only [V.noid] at hn
      simp only [Option.map_eq_some_iff] at h
      obtain ⟨m, hm, rfl⟩ := h
      rw [fzQ_id f σ _ _ hm hn]
    all_goals first
      | (simp only [V.noid] at hn
         simp only [Option.map_eq_some_iff] at h
         obtain ⟨m, hm, rfl⟩ := h
         rw [hL hm hn])
      | (split at h <;> first | exact absurd hn ‹_› | (simp only [Option.some.injEq, reduceCtorEq] at h; try exact h.symm))
theorem fzQ_ok {R : Nat → Nat → Prop} {σt : Tr (Option Ob)} {σ : Store} (hm : Lv R (stF σt) σ) : ∀ (f : Nat) (v u v' : V), fzQ f σt v = some v' → VRel R v u → Fz σ (fun a => ∃ c o, R c a ∧ stF σt c = some o) u v'
  | 0, _, _, _, h, _ => by simp [fzQ] at h
  | f + 1, v, u, v', h, hr => by
    have hL : ∀ (vs us out : List V), fzLQ (fzQ f σt) vs = some out → VRelL R vs us → FzL σ (fun a => ∃ c o, R c a ∧ stF σt c = some o) us out := by
      intro vs
      induction vs with
      | nil =>
        intro us out h1 h2
        rw [VRelL.nil_iff] at h2; subst h2
        simp only [fzLQ, Option.some.injEq] at h1; subst h1
        exact .nil
      | cons a vs ih =>
        intro us out h1 h2
        obtain ⟨b, bs, rfl, h3, h4⟩ := VRelL.cons_iff.1 h2
        simp only [fzLQ] at h1
        split at h1
        · rename_i c hc
          split at h1
          · rename_i cs hcs
            simp only [Option.some.injEq] at h1; subst h1
            exact .cons _ _ _ _ (fzQ_ok hm f _ _ _ hc h3) (ih _ _ hcs h4)
          · cases h1
        · cases h1
    cases v <;> simp only [fzQ, bcase] at h
    case own id off len =>
      split at h
      · rename_i ob hob
        split at h
        · rename_i hle
          simp only [Option.map_eq_some_iff] at h
          obtain ⟨rows, h3, rfl⟩ := h
          simp only [VRel] at hr
          obtain ⟨id', rfl, hR⟩ := hr
          obtain ⟨rows', g1, g2⟩ := hm _ id' ob hR hob
          have := hL _ _ _ h3 ((g2.drop _).take _)
          exact .own id' _ _ ⟨ob.elem, ob.sz, rows'⟩ _ g1 ⟨_, ob, hR, hob⟩ (by rw [g2.length]; exact Nat.le_of_ble_eq_true hle) this
        · cases h
      · cases h
    case ptr id i k =>
      split at h
      · rename_i hk
        split at h
        · rename_i ob hob
          split at h
          · rename_i r hri
            simp only [Option.map_eq_some_iff] at h
            obtain ⟨r', h3, rfl⟩ := h
            simp only [VRel] at hr
            obtain ⟨id', rfl, hR⟩ := hr
            obtain ⟨rows', g1, g2⟩ := hm _ id' ob hR hob
            obtain ⟨q, g3, g4⟩ := g2.get hri
            have hk0 : k = 0 := Nat.eq_of_beq_eq_true hk
            subst hk0
            exact .ptr id' _ ⟨ob.elem, ob.sz, rows'⟩ q r' g1 ⟨_, ob, hR, hob⟩ g3 (fzQ_ok hm f _ _ _ h3 g4)
          · cases h
        · cases h
      · cases h
    case iface t x =>
      simp only [VRel] at hr
      obtain ⟨y, rfl, hr⟩ := hr
      simp only [Option.map_eq_some_iff] at h
      obtain ⟨m, hm', rfl⟩ := h
      exact .iface _ _ _ (fzQ_ok hm f _ _ _ hm' hr)
    case sl sz rows =>
      simp only [VRel] at hr
      obtain ⟨y, rfl, hr⟩ := hr
      simp only [Option.map_eq_some_iff] at h
      obtain ⟨m, hm', rfl⟩ := h
      exact .sl _ _ _ (hL _ _ _ hm' hr)
    case agg =>
      simp only [VRel] at hr
      obtain ⟨y, rfl, hr⟩ := hr
      simp only [Option.map_eq_some_iff] at h
      obtain ⟨m, hm', rfl⟩ := h
      exact .agg _ _ (hL _ _ _ hm' hr)
    case tup =>
      simp only [VRel] at hr
      obtain ⟨y, rfl, hr⟩ := hr
      simp only [Option.map_eq_some_iff] at h
      obtain ⟨m, hm', rfl⟩ := h
      exact .tup _ _ (hL _ _ _ hm' hr)
    case fn =>
      simp only [VRel] at hr
      obtain ⟨y, rfl, hr⟩ := hr
      simp only [Option.map_eq_some_iff] at h
      obtain ⟨m, hm', rfl⟩ := h
      exact .fn _ _ _ (hL _ _ _ hm' hr)
    case bm =>
      simp only [VRel] at hr
      obtain ⟨y, rfl, hr⟩ := hr
      simp only [Option.map_eq_some_iff] at h
      obtain ⟨m, hm', rfl⟩ := h
      exact .bm _ _ _ (hL _ _ _ hm' hr)
    all_goals (split at h
               · rename_i hno
                 simp only [Option.some.injEq] at h; subst h
                 have := noid_eq _ _ hno hr
                 subst this
                 exact .same _ hno
               · cases h)
theorem fzLQ_ok {R : Nat → Nat → Prop} {σt : Tr (Option Ob)} {σ : Store} (hm : Lv R (stF σt) σ) {f : Nat} : ∀ (vs us out : List V), fzLQ (fzQ f σt) vs = some out → VRelL R vs us → WkL σ nost us out
  | [], us, out, h1, h2 => by
    rw [VRelL.nil_iff] at h2; subst h2
    simp only [fzLQ, Option.some.injEq] at h1; subst h1
    simp [WkL]
  | a :: vs, us, out, h1, h2 => by
    obtain ⟨b, bs, rfl, h3, h4⟩ := VRelL.cons_iff.1 h2
    simp only [fzLQ] at h1
    split at h1
    · rename_i c hc
      split at h1
      · rename_i cs hcs
        simp only [Option.some.injEq] at h1; subst h1
        simp only [WkL]
        exact ⟨(fzQ_ok hm f _ _ _ hc h3).wk (nost_sub σ) (fun _ _ => rfl), fzLQ_ok hm _ _ _ hcs h4⟩
      · cases h1
    · cases h1
inductive Fk where
  | code (vf : VFn)
  | fz (vf : VFn)
  | orc (g : List V → Option V)
def fzCall (σ : Tr (Option Ob)) (args : List V) (h : List V → Option V) (nxt : Nat) : Option Rs := match fzLQ (fzQ 40 σ) args with
  | some as1 => (match h as1 with
    | some v => @Bool.casesOn (fun _ => Option Rs) (v.noid && (noidL args || v.scalar)) none (some ⟨v, σ, nxt⟩)
    | none => none)
  | none => none
def evZ (run : Nat → VCode → CS → Out) (vf : VFn) (as1 : List V) : Option V := @Bool.casesOn (fun _ => Option V) (Nat.ble as1.length vf.n) none
  (match outQ vf.res (run 0 vf.code ⟨Tr.ofL as1 0 .e, .e, 0⟩) with
    | some r => fzQ 40 r.σ r.v
    | none => none)
def evF2 (run : Nat → VCode → CS → Out) (T : FuncId → Option Fk) : CallT := fun f args σ nxt fl => match T f with
  | none => none
  | some k => match k with
    | .code vf => @Bool.casesOn (fun _ => Option Rs) (Nat.ble args.length vf.n) none (outQ vf.res (run fl vf.code ⟨Tr.ofL args 0 .e, σ, nxt⟩))
    | .fz vf => fzCall σ args (evZ run vf) nxt
    | .orc g => fzCall σ args g nxt
variable {P : Program} {n : Nat}
theorem fzCall_ok {f : FuncId} {h : List V → Option V} (hp : ∀ as1 v, h as1 = some v → noidL as1 = true → v.noid = true → PFun P f as1 v) {args : List V} {σc : Tr (Option Ob)} {nxt fl : Nat} {r : Rs} (hr : fzCall σc args h nxt = some r)
    {K : Store} {R : Nat → Nat → Prop} {σ : Store} {args' : List V} (hm : MRel K fl R (stF σc) nxt σ) (ha : VRelL R args args') :
    Contract P f args' σ fun v σ' => ∃ R', Le R R' ∧ VRel R' r.v v ∧ MRel K fl R' (stF r.σ) r.nxt σ' := by
  unfold fzCall at hr
  split at hr
  · rename_i as1 h1
    split at hr
    · rename_i v h2
      rw [bcase] at hr
      split at hr
      · rename_i hc
        simp only [Bool.and_eq_true, Bool.or_eq_true] at hc
        simp only [Option.some.injEq] at hr; subst hr
        have hno1 := fzLQ_noid (fzQ_noid 40 σc) h1
        have hpf := hp as1 v h2 hno1 hc.1
        have key : Contract P f args' σ fun r σ' => r = v ∧ σ' = σ := by
          rcases hc.2 with h3 | h3
          · have e1 : as1 = args := fzLQ_id (fzQ_id 40 σc) h1 h3
            have e2 : args' = args := noidL_eq _ _ h3 ha
            rw [e2, ← e1]
            exact hpf σ
          · exact PFun.borrow (fzLQ_ok hm.live _ _ _ h1 ha) hpf h3
        refine key.weak ?_
        rintro r σ' ⟨rfl, rfl⟩
        exact ⟨r, σ', SubStore.refl _, Wk.refl (SubStore.refl _) _, R, Le.refl R, noid_refl _ hc.1, hm⟩
      · cases hr
    · cases hr
  · cases hr
end Go.Vc
namespace Go.Vc
variable {P : Program} {n : Nat} {st : St} {Q : St → Prop} {k : List It}
def QYd (P : Program) (i : VIns) (x : St) : Prop := match i.dst with
  | some d => QY P i x.s x.σ (x.s d)
  | none => ∃ v, QY P i x.s x.σ v
def RE (P : Program) (l : List VIns) (K : St → Prop) : List Nat → St → Prop
  | [], x => K x
  | m :: its, x => match l[m / 2]? with
    | none => False
    | some ins => if m % 2 = 0 then TC P ins x (RE P l K its) else QYd P ins x ∧ RE P l K its x
def insAt (l : List VIns) (i : Nat) : VIns := (l[i]?).getD ⟨none, .bad, none⟩
def befAt (bef : List (List Nat)) (i : Nat) : List Nat := bef.getD i []
def isEff (l : List VIns) (bef : List (List Nat)) (j : Nat) : Bool := okind (insAt l j).op != 0 || (match (insAt l j).dst with
  | some d => (List.range l.length).any fun i => (insAt l i).uses.contains d && !(befAt bef i).contains j
  | none => false)
def chks (l : List VIns) (bef : List (List Nat)) (done : List Nat) (e : Nat) : List Nat :=
  if isEff l bef e then done.filterMap fun k => if !(isEff l bef k) && (!(sfree (insAt l k).op) && !((befAt bef e).contains k)) then some (2 * k + 1) else none else []
def itemsF (l : List VIns) (bef : List (List Nat)) : List Nat → List Nat → List Nat
  | _, [] => []
  | done, e :: r => 2 * e :: (chks l bef done e ++ itemsF l bef (done ++ [e]) r)
def pairsB (p : Nat → Nat → Bool) : List Nat → Bool
  | [] => true
  | a :: r => r.all (p a) && pairsB p r
theorem pairsB_spec {p : Nat → Nat → Bool} : ∀ {a : List Nat} {b : List Nat} {x y : Nat}, pairsB p (a ++ b) = true → x ∈ a → y ∈ b → p x y = true
  | [], _, _, _, _, h, _ => by cases h
  | c :: a, b, x, y, hp, hx, hy => by
    simp only [List.cons_append, pairsB, Bool.and_eq_true] at hp
    rcases List.mem_cons.1 hx with rfl | hx
    · exact List.all_eq_true.1 hp.1 y (List.mem_append_right _ hy)
    · exact pairsB_spec hp.2 hx hy
def aheadB (f : Nat → List Nat) : List Nat → List Nat → Bool
  | _, [] => true
  | done, e :: r => (f e).all done.contains && aheadB f (done ++ [e]) r
theorem aheadB_spec {f : Nat → List Nat} : ∀ {r done : List Nat} {a : List Nat} {e : Nat} {b : List Nat}, aheadB f done r = true → r = a ++ e :: b → ∀ x ∈ f e, x ∈ done ++ a
  | [], _, a, e, b, _, h, _, _ => by simp at h
  | c :: r, done, [], e, b, hB, h, x, hx => by
    simp only [List.nil_append, List.cons.injEq] at h
    obtain ⟨rfl, rfl⟩ := h
    simp only [aheadB, Bool.and_eq_true] at hB
    simpa using List.all_eq_true.1 hB.1 x hx
  | c :: r, done, d :: a, e, b, hB, h, x, hx => by
    simp only [List.cons_append, List.cons.injEq] at h
    obtain ⟨rfl, rfl⟩ := h
    simp only [aheadB, Bool.and_eq_true] at hB
    have := aheadB_spec hB.2 rfl x hx
    simpa using this
def eOkW (l : List VIns) (deps bef : List (List Nat)) (ord : List Nat) : Bool :=
  (decide (ord.length = l.length) && (decide (deps.length = l.length) && ord.all fun i => decide (i < l.length))) &&
  (pairsB (fun a b => decide (a ≠ b)) ord &&
  (aheadB (fun i => deps.getD i []) [] ord &&
  ((List.range l.length).all (fun j => (befAt bef j).all fun i => (deps.getD j []).any fun d => d == i || (befAt bef d).contains i) &&
  ((List.range l.length).all (fun i => (List.range l.length).all fun j => i == j || ((insAt l i).dst.isNone || (insAt l i).dst != (insAt l j).dst)) &&
  (List.range l.length).all (fun i => (List.range l.length).all fun j => i == j || (match (insAt l j).dst with
      | some d => !((insAt l i).uses.contains d) || ((befAt bef i).contains j || (isEff l bef j && (befAt bef j).contains i))
      | none => true))))))
def eOk (l : List VIns) (deps bef : List (List Nat)) (ord : List Nat) : Bool := eOkW l deps bef ord && pairsB (fun a b => !(isEff l bef a) || (befAt bef b).contains a) ord
theorem nodup_pairs : ∀ {l : List Nat}, pairsB (fun a b => decide (a ≠ b)) l = true → l.Nodup
  | [], _ => List.nodup_nil
  | a :: r, h => by
    simp only [pairsB, Bool.and_eq_true] at h
    refine List.nodup_cons.2 ⟨fun hm => ?_, nodup_pairs h.2⟩
    have := List.all_eq_true.1 h.1 a hm
    simp at this
structure EOkW (l : List VIns) (deps bef : List (List Nat)) (ord : List Nat) : Prop where
  len : ord.length = l.length
  dlen : deps.length = l.length
  lt : ∀ i ∈ ord, i < l.length
  nodup : ord.Nodup
  ahead : ∀ a e b, ord = a ++ e :: b → ∀ x ∈ deps.getD e [], x ∈ a
  anc : ∀ j, j < l.length → ∀ i ∈ befAt bef j, ∃ d ∈ deps.getD j [], d = i ∨ i ∈ befAt bef d
  dsts : ∀ i j, i < l.length → j < l.length → i ≠ j → ∀ d, (insAt l i).dst = some d → (insAt l j).dst ≠ some d
  anti : ∀ i j, i < l.length → j < l.length → i ≠ j → ∀ d, (insAt l j).dst = some d → d ∈ (insAt l i).uses → j ∈ befAt bef i ∨ (isEff l bef j = true ∧ i ∈ befAt bef j)
theorem eOkW_spec {l : List VIns} {deps bef : List (List Nat)} {ord : List Nat} (h : eOkW l deps bef ord = true) : EOkW l deps bef ord := by
  simp only [eOkW, Bool.and_eq_true, decide_eq_true_eq] at h
  obtain ⟨⟨h1, h2, h3⟩, h4, h5, h6, h7, h8⟩ := h
  refine ⟨h1, h2, fun i hi => by simpa using List.all_eq_true.1 h3 i hi, nodup_pairs h4, fun a e b he x hx => by simpa using aheadB_spec h5 he x hx, ?_, ?_, ?_⟩
  · intro j hj i hi
    have := List.all_eq_true.1 (List.all_eq_true.1 h6 j (by simpa using hj)) i hi
    simp only [List.any_eq_true, Bool.or_eq_true, beq_iff_eq, List.contains_iff_mem] at this
    exact this
  · intro i j hi hj hne d hd he
    have := List.all_eq_true.1 (List.all_eq_true.1 h7 i (by simpa using hi)) j (by simpa using hj)
    simp only [Bool.or_eq_true, beq_iff_eq, hd, he, Option.isNone_some, bne_self_eq_false, Bool.false_eq_true, or_false] at this
    exact hne this
  · intro i j hi hj hne d hd hu
    have := List.all_eq_true.1 (List.all_eq_true.1 h8 i (by simpa using hi)) j (by simpa using hj)
    simp only [Bool.or_eq_true, beq_iff_eq, hd, Bool.and_eq_true, Bool.not_eq_true', List.contains_iff_mem] at this
    rcases this with h | h | h
    · exact absurd h hne
    · have hc : (insAt l i).uses.contains d = true := List.contains_iff_mem.2 hu
      rw [hc] at h; cases h
    · exact h
structure EOk (l : List VIns) (deps bef : List (List Nat)) (ord : List Nat) : Prop extends EOkW l deps bef ord where
  effs : ∀ a b x y, ord = a ++ b → x ∈ a → y ∈ b → isEff l bef x = true → x ∈ befAt bef y
theorem eOk_spec {l : List VIns} {deps bef : List (List Nat)} {ord : List Nat} (h : eOk l deps bef ord = true) : EOk l deps bef ord := by
  simp only [eOk, Bool.and_eq_true] at h
  refine ⟨eOkW_spec h.1, fun a b x y he hx hy hxe => ?_⟩
  have h9 := h.2
  rw [he] at h9
  have := pairsB_spec h9 hx hy
  simp only [hxe, Bool.not_true, Bool.false_or, List.contains_iff_mem] at this
  exact this
theorem EOkW.closed {l : List VIns} {deps bef : List (List Nat)} {ord : List Nat} (h : EOkW l deps bef ord) {L : List Nat} (hc : ∀ m ∈ L, ∀ d ∈ deps.getD m [], d ∈ L) (hmem : ∀ i, i < l.length → i ∈ ord) :
    ∀ (m : Nat) (a : List Nat) (j : Nat) (b : List Nat), a.length < m → ord = a ++ j :: b → (∀ d ∈ deps.getD j [], d ∈ L) → ∀ i ∈ befAt bef j, i ∈ L := by
  intro m
  induction m with
  | zero => intro a j b ha; omega
  | succ m ih =>
    intro a j b ha he hd i hi
    have hj : j < l.length := h.lt j (by rw [he]; simp)
    obtain ⟨d, h1, h2⟩ := h.anc j hj i hi
    rcases h2 with rfl | h2
    · exact hd d h1
    · have hda := h.ahead a j b he d h1
      obtain ⟨a1, a2, rfl⟩ := List.append_of_mem hda
      exact ih a1 d (a2 ++ j :: b) (by simp at ha; omega) (by rw [he]; simp) (fun d' h' => hc d (hd d h1) d' h') i h2
theorem wantV_congr {i : VIns} {s s' : Nat → V} (h : ∀ u ∈ i.uses, s u = s' u) : wantV s i.g = wantV s' i.g := by
  cases hg : i.g with
  | none => rfl
  | some g =>
    obtain ⟨x, b⟩ := g
    have : x.ev s = x.ev s' := by
      cases x with
      | t t => exact h t (List.mem_filterMap.2 ⟨.t t, List.mem_append_right _ (by simp [hg]), rfl⟩)
      | c v => rfl
    simp only [wantV, this]
theorem xs_congr {i : VIns} {s s' : Nat → V} (h : ∀ u ∈ i.uses, s u = s' u) : ∀ x ∈ i.op.xs, x.ev s = x.ev s' := fun x hx => by
  cases x with
  | t t => exact h t (uses_op hx rfl)
  | c v => rfl
theorem QY_congr {i : VIns} {s s' : Nat → V} {σ : Store} {v : V} (h : ∀ u ∈ i.uses, s u = s' u) (hq : QY P i s σ v) : QY P i s' σ v := by
  unfold QY at *
  rw [← wantV_congr h]
  exact hq.imp (fun ⟨h1, h2⟩ => ⟨h1, QO_congr (xs_congr h) h2⟩) id
theorem TC_congr {i : VIns} {x y : St} {K K' : St → Prop} (h : ∀ u ∈ i.uses, x.s u = y.s u) (hσ : x.σ = y.σ) (hk : ∀ r σ', K ⟨putO x.s i.dst r, σ'⟩ → K' ⟨putO y.s i.dst r, σ'⟩) (ht : TC P i x K) : TC P i y K' := by
  have hx := xs_congr h
  rcases ht with ht | ⟨hw, ht⟩
  · refine .inl ?_
    unfold T at *
    rw [← wantV_congr h]
    split <;> rename_i ho <;> simp only [ho] at ht
    · unfold TO at *
      split <;> rename_i hk0 <;> simp only [hk0] at ht
      · obtain ⟨g1, v, g2, g3⟩ := ht
        obtain ⟨e1, e2⟩ := vpure_congr (σ := y.σ) hx
        exact ⟨e2.1 g1, v, by rw [← e1, ← hσ]; exact g2, by rw [← hσ]; exact hk _ _ g3⟩
      · split at ht
        · rename_i fx xs hop
          obtain ⟨f, caps, v, g1, g2, g3⟩ := ht
          refine ⟨f, caps, v, ?_, ?_, by rw [← hσ]; exact hk _ _ g3⟩
          · rw [← hx fx (by rw [hop]; simp [VOp.xs])]; exact g1
          · rw [← map_ev (s := x.s) (s' := y.s) fun z hz => hx z (by rw [hop]; simp [VOp.xs, hz]), ← hσ]; exact g2
        · exact ht.elim
      · split at ht
        · rename_i sz xa xv hop
          obtain ⟨σ', g1, g2⟩ := ht
          refine ⟨σ', ?_, hk _ _ g2⟩
          rw [← hx xa (by rw [hop]; simp [VOp.xs]), ← hx xv (by rw [hop]; simp [VOp.xs]), ← hσ]; exact g1
        · exact ht.elim
      · obtain ⟨g, g1, g2⟩ := ht
        refine ⟨g, by rw [← eff_congr hx, ← hσ]; exact g1, fun id hid => hk _ _ (g2 id (by rw [hσ]; exact hid))⟩
    · rw [← hσ]; exact hk _ _ ht
  · refine .inr ⟨by rw [← wantV_congr h]; exact hw, ?_⟩
    split at ht
    · rename_i fx xs hop
      obtain ⟨f, caps, Post, g1, g2, g3⟩ := ht
      refine ⟨f, caps, Post, ?_, ?_, fun r σ' hp => hk _ _ (g3 r σ' hp)⟩
      · rw [← hx fx (by rw [hop]; simp [VOp.xs])]; exact g1
      · rw [← map_ev (s := x.s) (s' := y.s) fun z hz => hx z (by rw [hop]; simp [VOp.xs, hz]), ← hσ]; exact g2
    · exact ht.elim
structure ELag (P : Program) (l : List VIns) (deps bef : List (List Nat)) (ord : List Nat) (K : St → Prop) (L : List Nat) (y : St) (done rest : List Nat) (x : St) : Prop where
  split : ord = done ++ rest
  sub : ∀ i ∈ L, i ∈ done
  nodup : L.Nodup
  closed : ∀ m ∈ L, ∀ d ∈ deps.getD m [], d ∈ L
  effs : ∀ i ∈ done, isEff l bef i = true → i ∈ L
  store : y.σ = x.σ
  slot : ∀ d, (∀ i ∈ done, i ∉ L → (insAt l i).dst ≠ some d) → y.s d = x.s d
  lag : ∀ i ∈ done, i ∉ L → QYd P (insAt l i) x
  go : RE P l K (itemsF l bef done rest) x
theorem isEff_plain {l : List VIns} {bef : List (List Nat)} {e : Nat} (h : isEff l bef e = false) (he : e < l.length) (hne : e ∉ befAt bef e) : okind (insAt l e).op = 0 ∧ ∀ d, (insAt l e).dst = some d → d ∉ (insAt l e).uses := by
  simp only [isEff, Bool.or_eq_false_iff, bne_eq_false_iff_eq] at h
  refine ⟨h.1, fun d hd hu => ?_⟩
  have h2 := h.2
  rw [hd] at h2
  simp only [List.any_eq_false, List.mem_range, Bool.and_eq_true, Bool.not_eq_true', not_and, Bool.not_eq_false] at h2
  have := h2 e he (List.contains_iff_mem.2 hu)
  exact hne (List.contains_iff_mem.1 this)
theorem RE_op {l : List VIns} {K : St → Prop} {e : Nat} {its : List Nat} {x : St} (he : e < l.length) : RE P l K (2 * e :: its) x ↔ TC P (insAt l e) x (RE P l K its) := by
  have h1 : 2 * e / 2 = e := by omega
  have h2 : 2 * e % 2 = 0 := by omega
  rw [RE, h1, List.getElem?_eq_getElem he]
  simp only [if_pos h2, insAt, List.getElem?_eq_getElem he, Option.getD_some]
theorem RE_chk {l : List VIns} {K : St → Prop} {e : Nat} {its : List Nat} {x : St} (he : e < l.length) : RE P l K ((2 * e + 1) :: its) x ↔ QYd P (insAt l e) x ∧ RE P l K its x := by
  have h1 : (2 * e + 1) / 2 = e := by omega
  have h2 : ¬ (2 * e + 1) % 2 = 0 := by omega
  rw [RE, h1, List.getElem?_eq_getElem he]
  simp only [if_neg h2, insAt, List.getElem?_eq_getElem he, Option.getD_some]
theorem RE_chks {l : List VIns} {K : St → Prop} {its : List Nat} {x : St} (p : Nat → Bool) : ∀ {done : List Nat}, (∀ i ∈ done, i < l.length) → RE P l K ((done.filterMap fun k => if p k then some (2 * k + 1) else none) ++ its) x →
    (∀ k ∈ done, p k = true → QYd P (insAt l k) x) ∧ RE P l K its x
  | [], _, h => ⟨by simp, h⟩
  | a :: r, hl, h => by
    rw [List.filterMap_cons] at h
    cases hp : p a with
    | false =>
      simp only [hp, Bool.false_eq_true, if_false] at h
      obtain ⟨h1, h2⟩ := RE_chks p (fun i hi => hl i (by simp [hi])) h
      refine ⟨fun k hk hpk => ?_, h2⟩
      rcases List.mem_cons.1 hk with rfl | hk
      · rw [hp] at hpk; cases hpk
      · exact h1 k hk hpk
    | true =>
      simp only [hp, if_true, List.cons_append] at h
      rw [RE_chk (hl a (by simp))] at h
      obtain ⟨h1, h2⟩ := RE_chks p (fun i hi => hl i (by simp [hi])) h.2
      refine ⟨fun k hk hpk => ?_, h2⟩
      rcases List.mem_cons.1 hk with rfl | hk
      · exact h.1
      · exact h1 k hk hpk
section
variable {l : List VIns} {deps bef : List (List Nat)} {ord : List Nat} {K : St → Prop} (hE : EOkW l deps bef ord)
include hE
theorem EOkW.mem (i : Nat) (hi : i < l.length) : i ∈ ord := (pigeon l.length ord hE.nodup hE.lt).2 hE.len i hi
theorem EOkW.befAhead {a : List Nat} {j : Nat} {b : List Nat} (he : ord = a ++ j :: b) : ∀ i ∈ befAt bef j, i ∈ a := by
  have hc : ∀ m ∈ a, ∀ d ∈ deps.getD m [], d ∈ a := fun m hm d hd => by
    obtain ⟨a1, a2, rfl⟩ := List.append_of_mem hm
    have := hE.ahead a1 m (a2 ++ j :: b) (by rw [he]; simp) d hd
    simp [this]
  exact hE.closed hc hE.mem (a.length + 1) a j b (by omega) he (fun d hd => hE.ahead a j b he d hd)
theorem EOkW.notSelf {j : Nat} (hj : j < l.length) : j ∉ befAt bef j := fun h => by
  obtain ⟨a, b, he⟩ := List.append_of_mem (hE.mem j hj)
  have h1 := hE.befAhead he j h
  have := hE.nodup
  rw [he] at this
  have := (List.nodup_append.1 this).2.2 j h1 j (by simp)
  exact this rfl
theorem QYd_put {i : Nat} {x : St} {e : Nat} {v : V} {σ' : Store} (hi : i < l.length) (he : e < l.length) (hne : i ≠ e) (hu : ∀ d, (insAt l e).dst = some d → d ∉ (insAt l i).uses)
    (hq : ∀ v, QY P (insAt l i) x.s x.σ v → QY P (insAt l i) x.s σ' v) (h : QYd P (insAt l i) x) : QYd P (insAt l i) ⟨putO x.s (insAt l e).dst v, σ'⟩ := by
  unfold QYd at *
  have hq' : ∀ v', QY P (insAt l i) x.s x.σ v' → QY P (insAt l i) (putO x.s (insAt l e).dst v) σ' v' := fun v' hv => (QY_put hu).2 (hq v' hv)
  cases hd : (insAt l i).dst with
  | none => rw [hd] at h; obtain ⟨v', h⟩ := h; exact ⟨v', hq' v' h⟩
  | some d =>
    rw [hd] at h
    simp only at h ⊢
    have : putO x.s (insAt l e).dst v d = x.s d := by
      have := hE.dsts i e hi he hne d hd
      cases hde : (insAt l e).dst with
      | none => rfl
      | some d' =>
        rw [hde] at this
        simp only [putO]
        rw [if_neg (fun e' => this (by rw [e']))]
    rw [this]
    exact hq' _ h
theorem ELag.adv {L : List Nat} {y : St} : ∀ {rest done : List Nat} {x : St}, ELag P l deps bef ord K L y done rest x →
    ∃ done' rest' x', ELag P l deps bef ord K L y done' rest' x' ∧ ∀ h r, rest' = h :: r → isEff l bef h = true
  | [], done, x, h => ⟨done, [], x, h, by simp⟩
  | e :: rest, done, x, h => by
    cases heff : isEff l bef e with
    | true => exact ⟨done, e :: rest, x, h, fun a r he => by cases he; exact heff⟩
    | false =>
      have hel : e < l.length := hE.lt e (by rw [h.split]; simp)
      obtain ⟨hk, hself⟩ := isEff_plain heff hel (hE.notSelf hel)
      have hnd := hE.nodup
      rw [h.split] at hnd
      have hed : e ∉ done := fun hm => (List.nodup_append.1 hnd).2.2 e hm e (by simp) rfl
      have heL : e ∉ L := fun hm => hed (h.sub e hm)
      have hgo := h.go
      rw [itemsF, RE_op hel, chks, if_neg (by simp [heff]), List.nil_append] at hgo
      have hT : T P (insAt l e) x (RE P l K (itemsF l bef (done ++ [e]) rest)) := by
        rcases hgo with hgo | ⟨_, hgo⟩
        · exact hgo
        · exfalso
          revert hgo hk
          generalize (insAt l e).op = op
          intro hk hgo
          split at hgo
          · simp [okind] at hk
          · exact hgo
      obtain ⟨v, hv, hgo'⟩ := (T_quiet (by simp [quietI, hk])).1 hT
      refine ELag.adv (rest := rest) (done := done ++ [e]) (x := ⟨putO x.s (insAt l e).dst v, x.σ⟩) ⟨by rw [h.split]; simp, fun i hi => by simp [h.sub i hi], h.nodup, h.closed, fun i hi hie => ?_, h.store, fun d hd => ?_, fun i hi hiL => ?_, hgo'⟩
      · rcases List.mem_append.1 hi with hi | hi
        · exact h.effs i hi hie
        · simp only [List.mem_singleton] at hi; rw [hi, heff] at hie; cases hie
      · have h1 := h.slot d fun i hi hiL => hd i (by simp [hi]) hiL
        have h2 := hd e (by simp) heL
        rw [h1]
        simp only
        cases hde : (insAt l e).dst with
        | none => rfl
        | some d' =>
          rw [hde] at h2
          simp only [putO]
          rw [if_neg (fun e' => h2 (by rw [e']))]
      · by_cases hie : i = e
        · subst hie
          unfold QYd
          cases hd : (insAt l i).dst with
          | none => exact ⟨v, hv⟩
          | some d =>
            simp only
            have e1 : putO x.s (some d) v d = v := by simp [putO]
            rw [e1]
            exact (QY_put (fun t ht => by cases ht; exact hself d hd)).2 hv
        · have hid : i ∈ done := by
            rcases List.mem_append.1 hi with hi | hi
            · exact hi
            · simp only [List.mem_singleton] at hi; exact absurd hi hie
          have hil : i < l.length := hE.lt i (by rw [h.split]; simp [hid])
          refine QYd_put hE hil hel hie (fun d hd hu => ?_) (fun v hv => hv) (h.lag i hid hiL)
          rcases hE.anti i e hil hel hie d hd hu with h1 | ⟨h1, _⟩
          · obtain ⟨a, b, hab⟩ := List.append_of_mem hid
            have h2 := hE.befAhead (a := a) (j := i) (b := b ++ e :: rest) (by rw [h.split, hab]; simp) e h1
            exact hed (by rw [hab]; simp [h2])
          · rw [heff] at h1; cases h1
end
section
variable {l : List VIns} {deps bef : List (List Nat)} {ord : List Nat} {K : St → Prop} (hE : EOk l deps bef ord)
include hE
theorem anyVC_of_lag : ∀ (f : Nat) (L : List Nat) (y : St) (done rest : List Nat) (x : St), f + L.length = l.length → ELag P l deps bef ord K L y done rest x → anyVC P l deps K f L y := by
  intro f
  induction f with
  | zero =>
    intro L y done rest x hf h
    have hall : ∀ i, i < l.length → i ∈ L := (pigeon l.length L h.nodup fun i hi => hE.lt i (by rw [h.split]; simp [h.sub i hi])).2 (by omega)
    have hnd := hE.nodup
    rw [h.split] at hnd
    have hrest : rest = [] := by
      cases rest with
      | nil => rfl
      | cons e r =>
        exfalso
        have hel : e < l.length := hE.lt e (by rw [h.split]; simp)
        exact (List.nodup_append.1 hnd).2.2 e (h.sub e (hall e hel)) e (by simp) rfl
    subst hrest
    have hyx : y = x := by
      obtain ⟨s, σ⟩ := y
      obtain ⟨s', σ'⟩ := x
      have h1 : σ = σ' := h.store
      have h2 : s = s' := funext fun d => h.slot d fun i hi hiL => absurd (hall i (hE.lt i (by rw [h.split]; simp [hi]))) hiL
      rw [h1, h2]
    refine ⟨?_, by rw [hyx]; exact h.go⟩
    unfold readyV
    rw [List.filter_eq_nil_iff]
    intro i hi
    simp only [List.mem_range, hE.dlen] at hi
    simp [hall i hi]
  | succ f ih =>
    intro L y done rest x hf h
    obtain ⟨done, rest, x, h, hhead⟩ := ELag.adv hE.toEOkW h
    have hnd := hE.nodup
    rw [h.split] at hnd
    have hmemL : ∀ i ∈ L, i < l.length := fun i hi => hE.lt i (by rw [h.split]; simp [h.sub i hi])
    have key : allVC P l (anyVC P l deps K f) L y (readyV deps L) := by
      refine allV_ofC fun i hi => ?_
      obtain ⟨hil, hiL, hdep⟩ := readyV_mem hi
      rw [hE.dlen] at hil
      refine ⟨insAt l i, by simp [insAt, List.getElem?_eq_getElem hil], ?_⟩
      obtain ⟨pa, pb, hpe⟩ := List.append_of_mem (hE.mem i hil)
      have hbefL : ∀ j ∈ befAt bef i, j ∈ L := hE.closed h.closed hE.mem (pa.length + 1) pa i pb (by omega) hpe hdep
      have huses : ∀ u ∈ (insAt l i).uses, x.s u = y.s u := fun u hu => (h.slot u fun j hj hjL hd => by
        have hjl : j < l.length := hE.lt j (by rw [h.split]; simp [hj])
        by_cases hji : j = i
        · subst hji
          cases hje : isEff l bef j with
          | true => exact hjL (h.effs j hj hje)
          | false => exact (isEff_plain hje hjl (hE.notSelf hjl)).2 u hd hu
        · rcases hE.anti i j hil hjl (fun e => hji e.symm) u hd hu with h1 | ⟨h1, _⟩
          · exact hjL (hbefL j h1)
          · exact hjL (h.effs j hj h1)).symm
      by_cases hid : i ∈ done
      · have hie : isEff l bef i = false := by
          cases hie : isEff l bef i with
          | false => rfl
          | true => exact absurd (h.effs i hid hie) hiL
        obtain ⟨hk, _⟩ := isEff_plain hie hil (hE.notSelf hil)
        have hq := h.lag i hid hiL
        obtain ⟨v, hv, hvd⟩ : ∃ v, QY P (insAt l i) x.s x.σ v ∧ ∀ d, (insAt l i).dst = some d → x.s d = v := by
          unfold QYd at hq
          cases hd : (insAt l i).dst with
          | none => rw [hd] at hq; obtain ⟨v, hq⟩ := hq; exact ⟨v, hq, by simp⟩
          | some d => rw [hd] at hq; exact ⟨_, hq, fun d' e => by cases e; rfl⟩
        refine .inl ((T_quiet (by simp [quietI, hk])).2 ⟨v, ?_, ?_⟩)
        · rw [h.store]; exact QY_congr huses hv
        · refine ih (i :: L) _ done rest x (by simp only [List.length_cons]; omega) ⟨h.split, fun j hj => ?_, List.nodup_cons.2 ⟨hiL, h.nodup⟩, fun m hm d hd => ?_, fun j hj hje => by simp [h.effs j hj hje], h.store, fun d hd => ?_, fun j hj hjL => h.lag j hj (fun hm => hjL (by simp [hm])), h.go⟩
          · rcases List.mem_cons.1 hj with rfl | hj
            · exact hid
            · exact h.sub j hj
          · rcases List.mem_cons.1 hm with rfl | hm
            · simp [hdep d hd]
            · simp [h.closed m hm d hd]
          · simp only
            by_cases hdi : (insAt l i).dst = some d
            · rw [hdi]
              simp only [putO]
              rw [if_pos trivial]
              exact (hvd d hdi).symm
            · have h1 := h.slot d fun j hj hjL => by
                by_cases hji : j = i
                · rw [hji]; exact hdi
                · exact hd j hj (by simp [hji, hjL])
              rw [← h1]
              cases hde : (insAt l i).dst with
              | none => rfl
              | some d' =>
                rw [hde] at hdi
                simp only [putO]
                rw [if_neg (fun e' => hdi (by rw [e']))]
      · have hir : i ∈ rest := by
          have := hE.mem i hil
          rw [h.split] at this
          exact (List.mem_append.1 this).resolve_left hid
        obtain ⟨hd0, rr, rfl⟩ : ∃ a r, rest = a :: r := by
          cases rest with
          | nil => cases hir
          | cons a r => exact ⟨a, r, rfl⟩
        have heff := hhead hd0 rr rfl
        have hh0 : hd0 ∉ done := fun hm => (List.nodup_append.1 hnd).2.2 hd0 hm hd0 (by simp) rfl
        have hih : i = hd0 := by
          rcases List.mem_cons.1 hir with e | hir
          · exact e
          · exfalso
            have := hE.effs (done ++ [hd0]) rr hd0 i (by rw [h.split]; simp) (by simp) hir heff
            exact hh0 (h.sub _ (hbefL _ this))
        subst hih
        have hgo := h.go
        rw [itemsF, RE_op hil] at hgo
        refine TC_congr huses h.store.symm (fun r σ' hK => ?_) hgo
        rw [chks, if_pos heff] at hK
        obtain ⟨hck, hgo'⟩ := RE_chks (fun k => !(isEff l bef k) && (!(sfree (insAt l k).op) && !((befAt bef i).contains k))) (fun j hj => hE.lt j (by rw [h.split]; simp [hj])) hK
        refine ih (i :: L) _ (done ++ [i]) rr ⟨putO x.s (insAt l i).dst r, σ'⟩ (by simp only [List.length_cons]; omega) ⟨by rw [h.split]; simp, fun j hj => ?_, List.nodup_cons.2 ⟨hiL, h.nodup⟩, fun m hm d hd => ?_, fun j hj hje => ?_, rfl, fun d hd => ?_, fun j hj hjL => ?_, hgo'⟩
        · rcases List.mem_cons.1 hj with rfl | hj
          · simp
          · simp [h.sub j hj]
        · rcases List.mem_cons.1 hm with rfl | hm
          · simp [hdep d hd]
          · simp [h.closed m hm d hd]
        · rcases List.mem_append.1 hj with hj | hj
          · simp [h.effs j hj hje]
          · simp only [List.mem_singleton] at hj; simp [hj]
        · have h1 : (insAt l i).dst = some d ∨ y.s d = x.s d := by
            by_cases hdi : (insAt l i).dst = some d
            · exact .inl hdi
            · exact .inr (h.slot d fun j hj hjL => hd j (by simp [hj]) (by
                simp only [List.mem_cons, not_or]
                exact ⟨fun e => hid (e ▸ hj), hjL⟩))
          simp only
          cases hde : (insAt l i).dst with
          | none => rw [hde] at h1; exact h1.resolve_left (by simp)
          | some d' =>
            simp only [putO]
            split
            · rfl
            · rename_i hne
              rw [hde] at h1
              exact h1.resolve_left (fun e => hne (by cases e; rfl))
        · have hjd : j ∈ done := by
            rcases List.mem_append.1 hj with hj | hj
            · exact hj
            · simp only [List.mem_singleton] at hj; exact absurd (by simp [hj]) hjL
          have hjL' : j ∉ L := fun hm => hjL (by simp [hm])
          have hjl : j < l.length := hE.lt j (by rw [h.split]; simp [hjd])
          have hji : j ≠ i := fun e => hid (e ▸ hjd)
          have hje : isEff l bef j = false := by
            cases hje : isEff l bef j with
            | false => rfl
            | true => exact absurd (h.effs j hjd hje) hjL'
          cases hsf : sfree (insAt l j).op with
          | true =>
            refine QYd_put hE.toEOkW hjl hil hji (fun d hd hu => ?_) (fun v hv => QY_sfree hsf hv) (h.lag j hjd hjL')
            rcases hE.anti j i hjl hil hji d hd hu with h1 | ⟨_, h1⟩
            · obtain ⟨a, b, hab⟩ := List.append_of_mem hjd
              have h2 := hE.befAhead (a := a) (j := j) (b := b ++ i :: rr) (by rw [h.split, hab]; simp) i h1
              exact hid (by rw [hab]; simp [h2])
            · exact hjL' (hbefL j h1)
          | false =>
            refine hck j hjd ?_
            simp only [hje, hsf, Bool.not_false, Bool.true_and, Bool.not_eq_true']
            cases hc : (befAt bef i).contains j with
            | false => rfl
            | true => exact absurd (hbefL j (List.contains_iff_mem.1 hc)) hjL'
    cases hr : readyV deps L with
    | cons a r => unfold anyVC; rw [hr] at key ⊢; exact key
    | nil =>
      exfalso
      -- the first one that is not done could be done
      have : ∃ i, i ∈ ord ∧ i ∉ L := by
        by_cases hx : ∃ i, i ∈ ord ∧ i ∉ L
        · exact hx
        · exfalso
          have hsub : ∀ i ∈ ord, i ∈ L := fun i hi => Classical.byContradiction fun hn => hx ⟨i, hi, hn⟩
          have h1 := hE.nodup.length_le_of_subset hsub
          have := hE.len
          omega
      obtain ⟨i, hi, hiL⟩ := this
      have first : ∀ (a b : List Nat), ord = a ++ b → (∀ j ∈ a, j ∈ L) → (∃ i ∈ b, i ∉ L) → ∃ a' e b', ord = a' ++ e :: b' ∧ (∀ j ∈ a', j ∈ L) ∧ e ∉ L := by
        intro a b
        induction b generalizing a with
        | nil => rintro _ _ ⟨i, h, _⟩; cases h
        | cons e b ihb =>
          intro he ha hx
          by_cases heL : e ∈ L
          · refine ihb (a ++ [e]) (by rw [he]; simp) (fun j hj => ?_) ?_
            · rcases List.mem_append.1 hj with hj | hj
              · exact ha j hj
              · simp only [List.mem_singleton] at hj; rw [hj]; exact heL
            · obtain ⟨i, hi, hiL⟩ := hx
              rcases List.mem_cons.1 hi with rfl | hi
              · exact absurd heL hiL
              · exact ⟨i, hi, hiL⟩
          · exact ⟨a, e, b, he, ha, heL⟩
      obtain ⟨a, e, b, he, ha, heL⟩ := first [] ord rfl (by simp) ⟨i, hi, hiL⟩
      have hel : e < l.length := hE.lt e (by rw [he]; simp)
      have : e ∈ readyV deps L := by
        unfold readyV
        refine List.mem_filter.2 ⟨by simp [hE.dlen, hel], ?_⟩
        simp only [Bool.and_eq_true, Bool.not_eq_true', List.all_eq_true]
        refine ⟨by simpa using heL, fun d hd => ?_⟩
        simpa using ha d (hE.ahead a e b he d hd)
      rw [hr] at this
      cases this
end
theorem RE.call {l : List VIns} {K : St → Prop} {m : Nat} {rest : List Nat} {x : St} {i : VIns} (hi : l[m / 2]? = some i) (hm : m % 2 = 0) {fx : VX} {xs : List VX} (hw : wantV x.s i.g = some true) (ho : i.op = .call fx xs) {f : FuncId} {caps : List V} (hf : fx.ev x.s = .fn f caps)
    {Post : V → Store → Prop} (hc : Contract P f (xs.map (·.ev x.s) ++ caps) x.σ Post) (h : ∀ r σ', Post r σ' → RE P l K rest ⟨putO x.s i.dst r, σ'⟩) : RE P l K (m :: rest) x := by
  rw [RE, hi]
  simp only [if_pos hm]
  exact .inr ⟨hw, by rw [ho]; exact ⟨f, caps, Post, hf, hc, h⟩⟩
theorem RE.pcall {l : List VIns} {K : St → Prop} {m : Nat} {rest : List Nat} {x : St} {i : VIns} (hi : l[m / 2]? = some i) (hm : m % 2 = 0) {fx : VX} {xs : List VX} (hw : wantV x.s i.g = some true) (ho : i.op = .call fx xs) {f : FuncId} {caps : List V} (hf : fx.ev x.s = .fn f caps)
    {v : V} (hc : Contract P f (xs.map (·.ev x.s) ++ caps) x.σ fun r σ' => r = v ∧ σ' = x.σ) (h : RE P l K rest ⟨putO x.s i.dst v, x.σ⟩) : RE P l K (m :: rest) x :=
  RE.call hi hm hw ho hf hc fun r σ' ⟨h1, h2⟩ => by subst h1; subst h2; exact h
end Go.Vc
namespace Go.Vc
variable {P : Program} {n : Nat} {st : St} {Q : St → Prop} {k : List It}
def addS (D : List (List Nat)) (S : List Nat) (s : Nat) : List (List Nat) := (List.range D.length).map fun i => if S.contains i && !(i == s) then s :: D.getD i [] else D.getD i []
theorem addS_len {D : List (List Nat)} {S : List Nat} {s : Nat} : (addS D S s).length = D.length := by simp [addS]
theorem addS_get {D : List (List Nat)} {S : List Nat} {s i : Nat} : (addS D S s).getD i [] = if i < D.length ∧ i ∈ S ∧ i ≠ s then s :: D.getD i [] else D.getD i [] := by
  unfold addS
  rw [List.getD_eq_getElem?_getD, List.getElem?_map]
  by_cases hi : i < D.length
  · rw [List.getElem?_range hi]
    by_cases hs : i ∈ S
    · by_cases he : i = s
      · simp [he]
      · simp [hi, hs, he]
    · simp [hs]
  · have h1 : (List.range D.length)[i]? = none := List.getElem?_eq_none (by simpa using hi)
    rw [h1, if_neg (fun h => hi h.1)]
    simp [List.getElem?_eq_none (show D.length ≤ i by omega)]
theorem addS_out {D : List (List Nat)} {S : List Nat} {s i : Nat} (h : i ∉ S ∨ i = s) : (addS D S s).getD i [] = D.getD i [] := by
  rw [addS_get, if_neg]
  rintro ⟨_, h1, h2⟩
  exact h.elim (fun h => h h1) h2
theorem readyV_addS {D : List (List Nat)} {S : List Nat} {s : Nat} {L : List Nat} (hp : s ∈ L) : readyV (addS D S s) L = readyV D L := by
  unfold readyV
  rw [addS_len]
  refine List.filter_congr fun i hi => ?_
  rw [addS_get]
  split
  · simp [hp]
  · rfl
theorem anyVC_addS {l : List VIns} {D : List (List Nat)} {S : List Nat} {s : Nat} {K : St → Prop} : ∀ (f : Nat) (L : List Nat) (y : St), s ∈ L → anyVC P l (addS D S s) K f L y → anyVC P l D K f L y
  | 0, L, y, hp, h => ⟨by rw [← readyV_addS hp]; exact h.1, h.2⟩
  | f + 1, L, y, hp, h => by
    unfold anyVC at h ⊢
    rw [readyV_addS hp] at h
    cases hr : readyV D L with
    | nil => rw [hr] at h; exact h
    | cons a r =>
      rw [hr] at h
      refine allV_ofC fun i hi => ?_
      obtain ⟨ins, h1, h2⟩ := allV_memC h i hi
      exact ⟨ins, h1, TC.mono (fun x hx => anyVC_addS f _ x (by simp [hp]) hx) h2⟩
theorem RE_append {l : List VIns} {K : St → Prop} {b : List Nat} : ∀ {a : List Nat}, RE P l K (a ++ b) = RE P l (RE P l K b) a
  | [] => rfl
  | m :: a => by
    funext x
    rw [List.cons_append, RE, RE, RE_append]
theorem itemsF_append {l : List VIns} {bef : List (List Nat)} {b : List Nat} : ∀ {a done : List Nat}, itemsF l bef done (a ++ b) = itemsF l bef done a ++ itemsF l bef (done ++ a) b
  | [], done => by simp [itemsF]
  | e :: a, done => by
    rw [List.cons_append, itemsF, itemsF, itemsF_append]
    simp
theorem RE.mono {l : List VIns} {K K' : St → Prop} (hk : ∀ x, K x → K' x) : ∀ {a : List Nat} {x : St}, RE P l K a x → RE P l K' a x
  | [], x, h => hk x h
  | m :: a, x, h => by
    rw [RE] at h ⊢
    cases hm : l[m / 2]? with
    | none => rw [hm] at h; exact h.elim
    | some i =>
      rw [hm] at h
      simp only at h ⊢
      split at h <;> rename_i he
      · rw [if_pos he]
        exact TC.mono (fun x hx => RE.mono hk hx) h
      · rw [if_neg he]
        exact ⟨h.1, RE.mono hk h.2⟩
structure FN (l : List VIns) (D bef : List (List Nat)) (pre tail S : List Nat) (befs : Nat → List (List Nat)) : Prop where
  e : EOkW l D bef (pre ++ tail)
  effs : ∀ a b x y, pre ++ tail = a ++ b → x ∈ a → y ∈ b → x ∈ pre → isEff l bef x = true → x ∈ befAt bef y
  sub : ∀ s ∈ S, s ∈ tail
  some : ∃ s, s ∈ S
  later : ∀ i ∈ tail, i ∉ S → ∃ s ∈ S, s ∈ befAt bef i
  agree : ∀ s ∈ S, ∀ i ∈ pre, isEff l (befs s) i = isEff l bef i
section
variable {l : List VIns} {D bef : List (List Nat)} {pre tail S : List Nat} {befs : Nat → List (List Nat)} {K : St → Prop} {Ks : Nat → St → Prop} (hF : FN l D bef pre tail S befs)
include hF
theorem ELag.advF {L : List Nat} {y : St} : ∀ {rest done : List Nat} {x : St}, ELag P l D bef pre K L y done rest x →
    ∃ done' rest' x', ELag P l D bef pre K L y done' rest' x' ∧ ∀ h r, rest' = h :: r → isEff l bef h = true
  | [], done, x, h => ⟨done, [], x, h, by simp⟩
  | e :: rest, done, x, h => by
    have hE := hF.e
    cases heff : isEff l bef e with
    | true => exact ⟨done, e :: rest, x, h, fun a r he => by cases he; exact heff⟩
    | false =>
      have hel : e < l.length := hE.lt e (by rw [h.split]; simp)
      obtain ⟨hk, hself⟩ := isEff_plain heff hel (hE.notSelf hel)
      have hnd := (List.nodup_append.1 hE.nodup).1
      rw [h.split] at hnd
      have hed : e ∉ done := fun hm => (List.nodup_append.1 hnd).2.2 e hm e (by simp) rfl
      have heL : e ∉ L := fun hm => hed (h.sub e hm)
      have hgo := h.go
      rw [itemsF, RE_op hel, chks, if_neg (by simp [heff]), List.nil_append] at hgo
      have hT : T P (insAt l e) x (RE P l K (itemsF l bef (done ++ [e]) rest)) := by
        rcases hgo with hgo | ⟨_, hgo⟩
        · exact hgo
        · exfalso
          revert hgo hk
          generalize (insAt l e).op = op
          intro hk hgo
          split at hgo
          · simp [okind] at hk
          · exact hgo
      obtain ⟨v, hv, hgo'⟩ := (T_quiet (by simp [quietI, hk])).1 hT
      refine ELag.advF (rest := rest) (done := done ++ [e]) (x := ⟨putO x.s (insAt l e).dst v, x.σ⟩) ⟨by rw [h.split]; simp, fun i hi => by simp [h.sub i hi], h.nodup, h.closed, fun i hi hie => ?_, h.store, fun d hd => ?_, fun i hi hiL => ?_, hgo'⟩
      · rcases List.mem_append.1 hi with hi | hi
        · exact h.effs i hi hie
        · simp only [List.mem_singleton] at hi; rw [hi, heff] at hie; cases hie
      · have h1 := h.slot d fun i hi hiL => hd i (by simp [hi]) hiL
        have h2 := hd e (by simp) heL
        rw [h1]
        simp only
        cases hde : (insAt l e).dst with
        | none => rfl
        | some d' =>
          rw [hde] at h2
          simp only [putO]
          rw [if_neg (fun e' => h2 (by rw [e']))]
      · by_cases hie : i = e
        · subst hie
          unfold QYd
          cases hd : (insAt l i).dst with
          | none => exact ⟨v, hv⟩
          | some d =>
            simp only
            have e1 : putO x.s (some d) v d = v := by simp [putO]
            rw [e1]
            exact (QY_put (fun t ht => by cases ht; exact hself d hd)).2 hv
        · have hid : i ∈ done := by
            rcases List.mem_append.1 hi with hi | hi
            · exact hi
            · simp only [List.mem_singleton] at hi; exact absurd hi hie
          have hil : i < l.length := hE.lt i (by rw [h.split]; simp [hid])
          refine QYd_put hE hil hel hie (fun d hd hu => ?_) (fun v hv => hv) (h.lag i hid hiL)
          rcases hE.anti i e hil hel hie d hd hu with h1 | ⟨h1, _⟩
          · obtain ⟨a, b, hab⟩ := List.append_of_mem hid
            have h2 := hE.befAhead (a := a) (j := i) (b := b ++ e :: rest ++ tail) (by rw [h.split, hab]; simp) e h1
            exact hed (by rw [hab]; simp [h2])
          · rw [heff] at h1; cases h1
theorem anyVC_fork (hH : ∀ s ∈ S, ∀ (f : Nat) (L : List Nat) (y : St) (done rest : List Nat) (x : St), f + L.length = l.length → ELag P l (addS D S s) (befs s) pre (Ks s) L y done rest x → anyVC P l (addS D S s) K f L y) :
    ∀ (f : Nat) (L : List Nat) (y : St) (done rest : List Nat) (x : St), f + L.length = l.length → (∀ s ∈ S, s ∉ L) → ELag P l D bef pre (fun x => ∀ s ∈ S, Ks s x) L y done rest x → anyVC P l D K f L y := by
  have hE := hF.e
  obtain ⟨s0, hs0⟩ := hF.some
  have hlt : ∀ s ∈ S, s < l.length := fun s hs => hE.lt s (by simp [hF.sub s hs])
  have hpre : ∀ s ∈ S, s ∉ pre := fun s hs hm => (List.nodup_append.1 hE.nodup).2.2 s hm s (hF.sub s hs) rfl
  intro f
  induction f with
  | zero =>
    intro L y done rest x hf hSL h
    exact absurd ((pigeon l.length L h.nodup fun i hi => hE.lt i (by rw [h.split]; simp [h.sub i hi])).2 (by omega) s0 (hlt s0 hs0)) (hSL s0 hs0)
  | succ f ih =>
    intro L y done rest x hf hSL h
    obtain ⟨done, rest, x, h, hhead⟩ := ELag.advF hF h
    have hnd := (List.nodup_append.1 hE.nodup).1
    rw [h.split] at hnd
    have hdp : ∀ i ∈ done, i ∈ pre := fun i hi => by rw [h.split]; simp [hi]
    have hcl : ∀ m ∈ L, ∀ d ∈ D.getD m [], d ∈ L := h.closed
    have hclS : ∀ s, ∀ m ∈ L, ∀ d ∈ (addS D S s).getD m [], d ∈ L := fun s m hm d hd => by
      rw [addS_out (.inl fun hs => hSL m hs hm)] at hd
      exact h.closed m hm d hd
    -- one of them comes: it is known how it goes on
    have take : rest = [] → ∀ s ∈ S, anyVC P l (addS D S s) K (f + 1) L y := fun hr s hs => by
      subst hr
      have hdp' : pre = done := by rw [h.split]; simp
      refine hH s hs (f + 1) L y done [] x hf ⟨by rw [hdp']; simp, h.sub, h.nodup, hclS s, fun i hi hie => h.effs i hi (by rw [← hF.agree s hs i (hdp i hi)]; exact hie), h.store, h.slot, h.lag, ?_⟩
      exact h.go s hs
    have key : allVC P l (anyVC P l D K f) L y (readyV D L) := by
      refine allV_ofC fun i hi => ?_
      have hi0 := hi
      obtain ⟨hil, hiL, hdep⟩ := readyV_mem hi
      rw [hE.dlen] at hil
      by_cases hiS : i ∈ S
      · have hm : i ∈ readyV (addS D S i) L := by
          unfold readyV
          refine List.mem_filter.2 ⟨by rw [addS_len, hE.dlen]; simpa using hil, ?_⟩
          rw [addS_out (.inr rfl)]
          exact (List.mem_filter.1 hi).2
        have hrest : rest = [] := by
          cases hrr : rest with
          | nil => rfl
          | cons a rr =>
            exfalso
            have ha := hhead a rr hrr
            have hapre : a ∈ pre := by rw [h.split, hrr]; simp
            have hb : a ∈ befAt bef i := hF.effs pre tail a i rfl hapre (hF.sub i hiS) hapre ha
            obtain ⟨pa, pb, hpe⟩ := List.append_of_mem (hE.mem i hil)
            have haL : a ∈ L := hE.closed hcl hE.mem (pa.length + 1) pa i pb (by omega) hpe (fun d hd => hdep d hd) a hb
            rw [hrr] at hnd
            exact (List.nodup_append.1 hnd).2.2 a (h.sub a haL) a (by simp) rfl
        have h1 := take hrest i hiS
        unfold anyVC at h1
        cases hr : readyV (addS D S i) L with
        | nil => rw [hr] at hm; cases hm
        | cons a r =>
          rw [hr] at h1 hm
          obtain ⟨ins, g1, g2⟩ := allV_memC h1 i hm
          exact ⟨ins, g1, TC.mono (fun x hx => anyVC_addS f _ x (by simp) hx) g2⟩
      refine ⟨insAt l i, by simp [insAt, List.getElem?_eq_getElem hil], ?_⟩
      obtain ⟨pa, pb, hpe⟩ := List.append_of_mem (hE.mem i hil)
      have hbefL : ∀ j ∈ befAt bef i, j ∈ L := hE.closed hcl hE.mem (pa.length + 1) pa i pb (by omega) hpe hdep
      have huses : ∀ u ∈ (insAt l i).uses, x.s u = y.s u := fun u hu => (h.slot u fun j hj hjL hd => by
        have hjl : j < l.length := hE.lt j (by simp [hdp j hj])
        by_cases hji : j = i
        · subst hji
          cases hje : isEff l bef j with
          | true => exact hjL (h.effs j hj hje)
          | false => exact (isEff_plain hje hjl (hE.notSelf hjl)).2 u hd hu
        · rcases hE.anti i j hil hjl (fun e => hji e.symm) u hd hu with h1 | ⟨h1, _⟩
          · exact hjL (hbefL j h1)
          · exact hjL (h.effs j hj h1)).symm
      by_cases hid : i ∈ done
      · have hie : isEff l bef i = false := by
          cases hie : isEff l bef i with
          | false => rfl
          | true => exact absurd (h.effs i hid hie) hiL
        obtain ⟨hk, _⟩ := isEff_plain hie hil (hE.notSelf hil)
        have hq := h.lag i hid hiL
        obtain ⟨v, hv, hvd⟩ : ∃ v, QY P (insAt l i) x.s x.σ v ∧ ∀ d, (insAt l i).dst = some d → x.s d = v := by
          unfold QYd at hq
          cases hd : (insAt l i).dst with
          | none => rw [hd] at hq; obtain ⟨v, hq⟩ := hq; exact ⟨v, hq, by simp⟩
          | some d => rw [hd] at hq; exact ⟨_, hq, fun d' e => by cases e; rfl⟩
        refine .inl ((T_quiet (by simp [quietI, hk])).2 ⟨v, ?_, ?_⟩)
        · rw [h.store]; exact QY_congr huses hv
        · refine ih (i :: L) _ done rest x (by simp only [List.length_cons]; omega) (fun s hs hm => (List.mem_cons.1 hm).elim (fun e => hiS (e ▸ hs)) (hSL s hs)) ⟨h.split, fun j hj => ?_, List.nodup_cons.2 ⟨hiL, h.nodup⟩, fun m hm d hd => ?_, fun j hj hje => by simp [h.effs j hj hje], h.store, fun d hd => ?_, fun j hj hjL => h.lag j hj (fun hm => hjL (by simp [hm])), h.go⟩
          · rcases List.mem_cons.1 hj with rfl | hj
            · exact hid
            · exact h.sub j hj
          · rcases List.mem_cons.1 hm with rfl | hm
            · simp [hdep d hd]
            · simp [h.closed m hm d hd]
          · simp only
            by_cases hdi : (insAt l i).dst = some d
            · rw [hdi]
              simp only [putO]
              rw [if_pos trivial]
              exact (hvd d hdi).symm
            · have h1 := h.slot d fun j hj hjL => by
                by_cases hji : j = i
                · rw [hji]; exact hdi
                · exact hd j hj (by simp [hji, hjL])
              rw [← h1]
              cases hde : (insAt l i).dst with
              | none => rfl
              | some d' =>
                rw [hde] at hdi
                simp only [putO]
                rw [if_neg (fun e' => hdi (by rw [e']))]
      · have hir : i ∈ rest ++ tail := by
          have := hE.mem i hil
          rw [h.split, List.append_assoc] at this
          exact (List.mem_append.1 this).resolve_left hid
        obtain ⟨hd0, rr, rfl⟩ : ∃ a r, rest = a :: r := by
          cases rest with
          | nil =>
            exfalso
            rw [List.nil_append] at hir
            obtain ⟨s, hs, hsb⟩ := hF.later i hir hiS
            exact hSL s hs (hbefL _ hsb)
          | cons a r => exact ⟨a, r, rfl⟩
        have heff := hhead hd0 rr rfl
        have hh0 : hd0 ∉ done := fun hm => (List.nodup_append.1 hnd).2.2 hd0 hm hd0 (by simp) rfl
        have hih : i = hd0 := by
          rcases List.mem_cons.1 (show i ∈ hd0 :: (rr ++ tail) from hir) with e | hir
          · exact e
          · exfalso
            have := hF.effs (done ++ [hd0]) (rr ++ tail) hd0 i (by rw [h.split]; simp) (by simp) hir (by rw [h.split]; simp) heff
            exact hh0 (h.sub _ (hbefL _ this))
        subst hih
        have hgo := h.go
        rw [show itemsF l bef done (i :: rr) = 2 * i :: (chks l bef done i ++ itemsF l bef (done ++ [i]) rr) from rfl, RE_op hil] at hgo
        refine TC_congr huses h.store.symm (fun r σ' hK => ?_) hgo
        rw [chks, if_pos heff] at hK
        obtain ⟨hck, hgo'⟩ := RE_chks (fun k => !(isEff l bef k) && (!(sfree (insAt l k).op) && !((befAt bef i).contains k))) (fun j hj => hE.lt j (by simp [hdp j hj])) hK
        refine ih (i :: L) _ (done ++ [i]) rr ⟨putO x.s (insAt l i).dst r, σ'⟩ (by simp only [List.length_cons]; omega) (fun s hs hm => (List.mem_cons.1 hm).elim (fun e => hiS (e ▸ hs)) (hSL s hs)) ⟨by rw [h.split]; simp, fun j hj => ?_, List.nodup_cons.2 ⟨hiL, h.nodup⟩, fun m hm d hd => ?_, fun j hj hje => ?_, rfl, fun d hd => ?_, fun j hj hjL => ?_, hgo'⟩
        · rcases List.mem_cons.1 hj with rfl | hj
          · simp
          · simp [h.sub j hj]
        · rcases List.mem_cons.1 hm with rfl | hm
          · simp [hdep d hd]
          · simp [h.closed m hm d hd]
        · rcases List.mem_append.1 hj with hj | hj
          · simp [h.effs j hj hje]
          · simp only [List.mem_singleton] at hj; simp [hj]
        · have h1 : (insAt l i).dst = some d ∨ y.s d = x.s d := by
            by_cases hdi : (insAt l i).dst = some d
            · exact .inl hdi
            · exact .inr (h.slot d fun j hj hjL => hd j (by simp [hj]) (by
                simp only [List.mem_cons, not_or]
                exact ⟨fun e => hid (e ▸ hj), hjL⟩))
          simp only
          cases hde : (insAt l i).dst with
          | none => rw [hde] at h1; exact h1.resolve_left (by simp)
          | some d' =>
            simp only [putO]
            split
            · rfl
            · rename_i hne
              rw [hde] at h1
              exact h1.resolve_left (fun e => hne (by cases e; rfl))
        · have hjd : j ∈ done := by
            rcases List.mem_append.1 hj with hj | hj
            · exact hj
            · simp only [List.mem_singleton] at hj; exact absurd (by simp [hj]) hjL
          have hjL' : j ∉ L := fun hm => hjL (by simp [hm])
          have hjl : j < l.length := hE.lt j (by simp [hdp j hjd])
          have hji : j ≠ i := fun e => hid (e ▸ hjd)
          have hje : isEff l bef j = false := by
            cases hje : isEff l bef j with
            | false => rfl
            | true => exact absurd (h.effs j hjd hje) hjL'
          cases hsf : sfree (insAt l j).op with
          | true =>
            refine QYd_put hE hjl hil hji (fun d hd hu => ?_) (fun v hv => QY_sfree hsf hv) (h.lag j hjd hjL')
            rcases hE.anti j i hjl hil hji d hd hu with h1 | ⟨_, h1⟩
            · obtain ⟨a, b, hab⟩ := List.append_of_mem hjd
              have h2 := hE.befAhead (a := a) (j := j) (b := b ++ i :: rr ++ tail) (by rw [h.split, hab]; simp) i h1
              exact hid (by rw [hab]; simp [h2])
            · exact hjL' (hbefL j h1)
          | false =>
            refine hck j hjd ?_
            simp only [hje, hsf, Bool.not_false, Bool.true_and, Bool.not_eq_true']
            cases hc : (befAt bef i).contains j with
            | false => rfl
            | true => exact absurd (hbefL j (List.contains_iff_mem.1 hc)) hjL'
    cases hr : readyV D L with
    | cons a r => unfold anyVC; rw [hr] at key ⊢; exact key
    | nil =>
      exfalso
      -- else the order with the one ahead would be at its end, too
      have first : ∀ (a b : List Nat), pre ++ tail = a ++ b → (∀ j ∈ a, j ∈ L) → (∃ i ∈ b, i ∉ L) → ∃ a' e b', pre ++ tail = a' ++ e :: b' ∧ (∀ j ∈ a', j ∈ L) ∧ e ∉ L := by
        intro a b
        induction b generalizing a with
        | nil => rintro _ _ ⟨i, h, _⟩; cases h
        | cons e b ihb =>
          intro he ha hx
          by_cases heL : e ∈ L
          · refine ihb (a ++ [e]) (by rw [he]; simp) (fun j hj => ?_) ?_
            · rcases List.mem_append.1 hj with hj | hj
              · exact ha j hj
              · simp only [List.mem_singleton] at hj; rw [hj]; exact heL
            · obtain ⟨i, hi, hiL⟩ := hx
              rcases List.mem_cons.1 hi with rfl | hi
              · exact absurd heL hiL
              · exact ⟨i, hi, hiL⟩
          · exact ⟨a, e, b, he, ha, heL⟩
      obtain ⟨a, e, b, he, ha, heL⟩ := first [] (pre ++ tail) rfl (by simp) ⟨s0, by simp [hF.sub s0 hs0], hSL s0 hs0⟩
      have hel : e < l.length := hE.lt e (by rw [he]; simp)
      have : e ∈ readyV D L := by
        unfold readyV
        refine List.mem_filter.2 ⟨by simp [hE.dlen, hel], ?_⟩
        simp only [Bool.and_eq_true, Bool.not_eq_true', List.all_eq_true]
        exact ⟨by simpa using heL, fun d hd => List.contains_iff_mem.2 (ha d (hE.ahead a e b he d hd))⟩
      rw [hr] at this
      cases this
end
inductive PT where
  | leaf (bef : List (List Nat)) (r : List Nat)
  | fork (bef : List (List Nat)) (m : List Nat) (S : List Nat) (kids : List PT)
def PT.bef : PT → List (List Nat)
  | .leaf b _ => b
  | .fork b _ _ _ => b
def PT.ord : Nat → PT → List Nat
  | 0, _ => []
  | f + 1, t => match t with
    | .leaf _ r => r
    | .fork _ m _ kids => m ++ (match kids with
      | k :: _ => PT.ord f k
      | [] => [])
def kidsB (g : Nat → PT → Bool) : List Nat → List PT → Bool
  | [], [] => true
  | s :: ss, t :: ts => g s t && kidsB g ss ts
  | _, _ => false
theorem kidsB_spec {g : Nat → PT → Bool} : ∀ {S : List Nat} {ts : List PT}, kidsB g S ts = true → ∀ s ∈ S, ∃ t ∈ ts, g s t = true
  | [], [], _, s, hs => by cases hs
  | a :: S, t :: ts, h, s, hs => by
    simp only [kidsB, Bool.and_eq_true] at h
    rcases List.mem_cons.1 hs with rfl | hs
    · exact ⟨t, by simp, h.1⟩
    · obtain ⟨t', h1, h2⟩ := kidsB_spec h.2 s hs
      exact ⟨t', by simp [h1], h2⟩
def forkW (l : List VIns) (D bef : List (List Nat)) (pre tail S : List Nat) : Bool :=
  eOkW l D bef (pre ++ tail) && (pairsB (fun a b => !(pre.contains a) || (!(isEff l bef a) || (befAt bef b).contains a)) (pre ++ tail) &&
  (S.all tail.contains && (!S.isEmpty && tail.all fun i => S.contains i || S.any fun s => (befAt bef i).contains s)))
def chkT (l : List VIns) : Nat → List (List Nat) → List Nat → PT → Bool
  | 0, _, _, _ => false
  | f + 1, D, pre, t => match t with
    | .leaf bef r => eOk l D bef (pre ++ r)
    | .fork bef m S kids => forkW l D bef (pre ++ m) (match kids with
        | k :: _ => PT.ord f k
        | [] => []) S && kidsB (fun s k => ((pre ++ m).all fun i => isEff l k.bef i == isEff l bef i) && chkT l f (addS D S s) (pre ++ m) k) S kids
def GT (P : Program) (l : List VIns) (K : St → Prop) : Nat → List Nat → PT → St → Prop
  | 0, _, _, _ => False
  | f + 1, pre, t, x => match t with
    | .leaf bef r => RE P l K (itemsF l bef pre r) x
    | .fork bef m _ kids => RE P l (fun x => ∀ k ∈ kids, GT P l K f (pre ++ m) k x) (itemsF l bef pre m) x
theorem ELag.more {l : List VIns} {D bef : List (List Nat)} {pre m : List Nat} {K : St → Prop} {L : List Nat} {y : St} {done rest : List Nat} {x : St} (h : ELag P l D bef pre (RE P l K (itemsF l bef pre m)) L y done rest x) :
    ELag P l D bef (pre ++ m) K L y done (rest ++ m) x := by
  refine ⟨by rw [h.split]; simp, h.sub, h.nodup, h.closed, h.effs, h.store, h.slot, h.lag, ?_⟩
  rw [itemsF_append, RE_append, ← h.split]
  exact h.go
theorem ELag.mono {l : List VIns} {D bef : List (List Nat)} {pre : List Nat} {K K' : St → Prop} (hk : ∀ x, K x → K' x) {L : List Nat} {y : St} {done rest : List Nat} {x : St} (h : ELag P l D bef pre K L y done rest x) :
    ELag P l D bef pre K' L y done rest x := ⟨h.split, h.sub, h.nodup, h.closed, h.effs, h.store, h.slot, h.lag, RE.mono hk h.go⟩
theorem chkT_ok {l : List VIns} {K : St → Prop} : ∀ (fu : Nat) (D : List (List Nat)) (pre : List Nat) (t : PT), chkT l fu D pre t = true → ∀ (f : Nat) (L : List Nat) (y : St) (done rest : List Nat) (x : St), f + L.length = l.length →
    (∀ i ∈ L, i ∈ pre) → ELag P l D t.bef pre (GT P l K fu pre t) L y done rest x → anyVC P l D K f L y
  | 0, _, _, _, h, _, _, _, _, _, _, _, _, _ => by cases h
  | fu + 1, D, pre, t, h, f, L, y, done, rest, x, hf, hLp, hl => by
    cases t with
    | leaf bef r => exact anyVC_of_lag (eOk_spec h) f L y done (rest ++ r) x hf (ELag.more hl)
    | fork bef m S kids =>
      simp only [chkT, Bool.and_eq_true] at h
      obtain ⟨h1, h2⟩ := h
      generalize (match kids with
        | k :: _ => PT.ord fu k
        | [] => []) = tail at h1
      simp only [forkW, Bool.and_eq_true] at h1
      obtain ⟨g1, g2, g3, g4, g5⟩ := h1
      have hk := kidsB_spec h2
      have hW := eOkW_spec g1
      have hF : ∀ kid : Nat → PT, (∀ s ∈ S, ((pre ++ m).all fun i => isEff l (kid s).bef i == isEff l bef i) = true) → FN l D bef (pre ++ m) tail S (fun s => (kid s).bef) := fun kid hkid => by
        refine ⟨hW, fun a b u v he hu hv hup hue => ?_, fun s hs => by simpa using List.all_eq_true.1 g3 s hs, ?_, fun i hi hiS => ?_, fun s hs i hi => by simpa using List.all_eq_true.1 (hkid s hs) i hi⟩
        · rw [he] at g2
          have := pairsB_spec g2 hu hv
          simp only [Bool.or_eq_true, Bool.not_eq_true', List.contains_iff_mem, hue, Bool.true_eq_false, false_or] at this
          rcases this with h | h
          · have hc : (pre ++ m).contains u = true := List.contains_iff_mem.2 hup
            rw [hc] at h; cases h
          · exact h
        · cases S with
          | nil => simp at g4
          | cons s S => exact ⟨s, by simp⟩
        · have := List.all_eq_true.1 g5 i hi
          simp only [Bool.or_eq_true, List.contains_iff_mem, List.any_eq_true] at this
          exact this.resolve_left hiS
      have hch : ∀ s, ∃ k : PT, s ∈ S → (k ∈ kids ∧ (((pre ++ m).all fun i => isEff l k.bef i == isEff l bef i) = true ∧ chkT l fu (addS D S s) (pre ++ m) k = true)) := fun s => by
        by_cases hs : s ∈ S
        · obtain ⟨k, h3, h4⟩ := hk s hs
          simp only [Bool.and_eq_true] at h4
          exact ⟨k, fun _ => ⟨h3, h4⟩⟩
        · exact ⟨.leaf [] [], fun h => absurd h hs⟩
      obtain ⟨kid, hkid⟩ := Classical.axiomOfChoice hch
      have hFN := hF kid fun s hs => (hkid s hs).2.1
      have hSpre : ∀ s ∈ S, s ∉ pre ++ m := fun s hs hm => (List.nodup_append.1 hW.nodup).2.2 s hm s (hFN.sub s hs) rfl
      refine anyVC_fork (Ks := fun s => GT P l K fu (pre ++ m) (kid s)) hFN (fun s hs f L y done rest x hf hl => ?_) f L y done (rest ++ m) x hf (fun s hs hm => hSpre s hs (List.mem_append_left _ (hLp s hm))) ?_
      · refine chkT_ok fu _ _ _ (hkid s hs).2.2 f L y done rest x hf (fun i hi => ?_) hl
        have := hl.sub i hi
        rw [hl.split]; simp [this]
      · exact ELag.mono (fun x hx s hs => hx (kid s) (hkid s hs).1) (ELag.more hl)
theorem Runs.regT (hm : P.follows .mixedOrders = true) {l : List VIns} {deps : List (List Nat)} (fu : Nat) (t : PT) (hB : chkT l fu deps [] t = true) (h : GT P l (fun x => Runs P n k x Q) fu [] t st) : Runs P n (.code (.regA l deps) :: k) st Q := by
  refine Runs.regAC hm (chkT_ok fu deps [] t hB l.length [] st [] [] st (by simp) (by simp) ⟨rfl, by simp, List.nodup_nil, by simp, by simp, rfl, fun _ _ => rfl, by simp, ?_⟩)
  exact h
end Go.Vc
