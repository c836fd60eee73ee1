/- Part 5 of the library of this proof. -/
import Derived.Test.YtkmjiefaneibjaaGreatW4
import Derived.KernelRfl
set_option linter.all false
namespace Go.Vc
def eqLQ (g : V → V → Bool) : List V → List V → Bool
  | [], [] => true
  | v :: vs, u :: us => @Bool.casesOn (fun _ => Bool) (g v u) false (eqLQ g vs us)
  | _, _ => false
def eqVQ : Nat → V → V → Bool
  | 0, _, _ => false
  | f + 1, v, u => match v with
    | .int k n => match u with
      | .int k' n' => eqK k k' && eqQ n n'
      | _ => false
    | .bool b => match u with
      | .bool b' => b == b'
      | _ => false
    | .str b => match u with
      | .str b' => decide (b = b')
      | _ => false
    | .nils => match u with
      | .nils => true
      | _ => false
    | .nilp => match u with
      | .nilp => true
      | _ => false
    | .own a b c => match u with
      | .own a' b' c' => Nat.beq a a' && (Nat.beq b b' && Nat.beq c c')
      | _ => false
    | .ptr a b c => match u with
      | .ptr a' b' c' => Nat.beq a a' && (Nat.beq b b' && Nat.beq c c')
      | _ => false
    | .sl sz rows => match u with
      | .sl sz' rows' => Nat.beq sz sz' && eqLQ (eqVQ f) rows rows'
      | _ => false
    | .rp x => match u with
      | .rp y => eqVQ f x y
      | _ => false
    | .fn g cs => match u with
      | .fn g' ds => decide (g = g') && eqLQ (eqVQ f) cs ds
      | _ => false
    | .agg cs => match u with
      | .agg ds => eqLQ (eqVQ f) cs ds
      | _ => false
    | .tup cs => match u with
      | .tup ds => eqLQ (eqVQ f) cs ds
      | _ => false
    | .iface a x => match u with
      | .iface b y => Nat.beq a b && eqVQ f x y
      | _ => false
    | .niliface => match u with
      | .niliface => true
      | _ => false
    | .nilfn => match u with
      | .nilfn => true
      | _ => false
    | _ => false
theorem eqLQ_eq {g : V → V → Bool} (hg : ∀ v u, g v u = true → v = u) : ∀ {l m : List V}, eqLQ g l m = true → l = m
  | [], [], _ => rfl
  | v :: vs, u :: us, h => by
    simp only [eqLQ, bcase] at h
    split at h
    · rename_i hv
      rw [hg v u hv, eqLQ_eq hg h]
    · cases h
  | [], _ :: _, h => by simp [eqLQ] at h
  | _ :: _, [], h => by simp [eqLQ] at h
theorem eqVQ_eq : ∀ (f : Nat) (v u : V), eqVQ f v u = true → v = u
  | 0, _, _, h => by simp [eqVQ] at h
  | f + 1, v, u, h => by
    have hL : ∀ {l m : List V}, eqLQ (eqVQ f) l m = true → l = m := fun h => eqLQ_eq (eqVQ_eq f) h
    cases v <;> cases u <;> simp only [eqVQ, Bool.false_eq_true, Bool.and_eq_true, decide_eq_true_eq, beq_iff_eq] at h <;> try rfl
    case int.int => rw [eqQ_iff h.2, of_decide_eq_true (p := _ = _) h.1]
    case bool.bool => rw [h]
    case str.str => rw [h]
    case own.own => rw [Nat.eq_of_beq_eq_true h.1, Nat.eq_of_beq_eq_true h.2.1, Nat.eq_of_beq_eq_true h.2.2]
    case ptr.ptr => rw [Nat.eq_of_beq_eq_true h.1, Nat.eq_of_beq_eq_true h.2.1, Nat.eq_of_beq_eq_true h.2.2]
    case sl.sl => rw [Nat.eq_of_beq_eq_true h.1, hL h.2]
    case rp.rp => rw [eqVQ_eq f _ _ h]
    case fn.fn => rw [h.1, hL h.2]
    case agg.agg => rw [hL h]
    case tup.tup => rw [hL h]
    case iface.iface => rw [Nat.eq_of_beq_eq_true h.1, eqVQ_eq f _ _ h.2]
section
variable {R : Nat → Nat → Prop}
mutual
/-- numbers stand for one number -/
theorem VRel.fun (hf : ∀ c a a', R c a → R c a' → a = a') : ∀ (v u u' : V), VRel R v u → VRel R v u' → u = u'
  | .own id off len, u, u', h, h' => by simp only [VRel] at h h'; obtain ⟨i, rfl, r⟩ := h; obtain ⟨j, rfl, r'⟩ := h'; rw [hf _ _ _ r r']
  | .ptr id i k, u, u', h, h' => by simp only [VRel] at h h'; obtain ⟨i, rfl, r⟩ := h; obtain ⟨j, rfl, r'⟩ := h'; rw [hf _ _ _ r r']
  | .sl sz rows, u, u', h, h' => by simp only [VRel] at h h'; obtain ⟨i, rfl, r⟩ := h; obtain ⟨j, rfl, r'⟩ := h'; rw [VRelL.fun hf _ _ _ r r']
  | .rp v, u, u', h, h' => by simp only [VRel] at h h'; obtain ⟨i, rfl, r⟩ := h; obtain ⟨j, rfl, r'⟩ := h'; rw [VRel.fun hf _ _ _ r r']
  | .fn f caps, u, u', h, h' => by simp only [VRel] at h h'; obtain ⟨i, rfl, r⟩ := h; obtain ⟨j, rfl, r'⟩ := h'; rw [VRelL.fun hf _ _ _ r r']
  | .bm f caps, u, u', h, h' => by simp only [VRel] at h h'; obtain ⟨i, rfl, r⟩ := h; obtain ⟨j, rfl, r'⟩ := h'; rw [VRelL.fun hf _ _ _ r r']
  | .iface t v, u, u', h, h' => by simp only [VRel] at h h'; obtain ⟨i, rfl, r⟩ := h; obtain ⟨j, rfl, r'⟩ := h'; rw [VRel.fun hf _ _ _ r r']
  | .agg c, u, u', h, h' => by simp only [VRel] at h h'; obtain ⟨i, rfl, r⟩ := h; obtain ⟨j, rfl, r'⟩ := h'; rw [VRelL.fun hf _ _ _ r r']
  | .tup c, u, u', h, h' => by simp only [VRel] at h h'; obtain ⟨i, rfl, r⟩ := h; obtain ⟨j, rfl, r'⟩ := h'; rw [VRelL.fun hf _ _ _ r r']
  | .undef, u, u', h, h' => by simp only [VRel] at h h'; rw [h, h']
  | .int k n, u, u', h, h' => by simp only [VRel] at h h'; rw [h, h']
  | .bool b, u, u', h, h' => by simp only [VRel] at h h'; rw [h, h']
  | .str s, u, u', h, h' => by simp only [VRel] at h h'; rw [h, h']
  | .nils, u, u', h, h' => by simp only [VRel] at h h'; rw [h, h']
  | .nilp, u, u', h, h' => by simp only [VRel] at h h'; rw [h, h']
  | .nilfn, u, u', h, h' => by simp only [VRel] at h h'; rw [h, h']
  | .niliface, u, u', h, h' => by simp only [VRel] at h h'; rw [h, h']
  | .raw v, u, u', h, h' => by simp only [VRel] at h h'; rw [h, h']
  | .obj v, u, u', h, h' => by simp only [VRel] at h h'; rw [h, h']
  | .gp v, u, u', h, h' => by simp only [VRel] at h h'; rw [h, h']
  | .yl v, u, u', h, h' => by simp only [VRel] at h h'; obtain ⟨i, rfl, r⟩ := h; obtain ⟨j, rfl, r'⟩ := h'; rw [hf _ _ _ r r']
  | .mp v, u, u', h, h' => by simp only [VRel] at h h'; rw [h, h']
theorem VRelL.fun (hf : ∀ c a a', R c a → R c a' → a = a') : ∀ (v u u' : List V), VRelL R v u → VRelL R v u' → u = u'
  | [], u, u', h, h' => by simp only [VRelL] at h h'; rw [h, h']
  | v :: vs, u, u', h, h' => by
    simp only [VRelL] at h h'
    obtain ⟨a, as1, rfl, r, rs⟩ := h
    obtain ⟨b, bs, rfl, r', rs'⟩ := h'
    rw [VRel.fun hf _ _ _ r r', VRelL.fun hf _ _ _ rs rs']
end
end
def invB (dst : Option Nat) (tbl : List (TypeId × FuncId)) (rx : VX) (xs : List VX) : BI := ⟨fun call fl cs => match rx.ev cs.sf with
  | .iface t v => match tbl.lookup t with
    | some f => callIn dst cs (call f (v :: xs.map (·.ev cs.sf)) cs.σ cs.nxt fl)
    | none => none
  | _ => none⟩
def callB2 (dst : Option Nat) (fx : VX) (xs : List VX) : BI := ⟨fun call fl cs => match fx.ev cs.sf with
  | .fn f caps => callIn dst cs (call f (xs.map (·.ev cs.sf) ++ caps) cs.σ cs.nxt fl)
  | .bm f first => callIn dst cs (call f (first ++ xs.map (·.ev cs.sf)) cs.σ cs.nxt fl)
  | _ => none⟩
def nilfB (dst : Option Nat) (neg : Bool) (x : VX) : BI := ⟨fun _ _ cs => match x.ev cs.sf with
  | .nilfn => some (cs.put dst (.bool (true != neg)))
  | .fn _ _ => some (cs.put dst (.bool (false != neg)))
  | _ => none⟩
def store0B (dst : Option Nat) (xa xv : VX) : BI := ⟨fun _ _ cs => match xa.ev cs.sf with
  | .rp _ => (match xv.ev cs.sf with
    | .agg [] => some (cs.put dst (.tup []))
    | _ => none)
  | _ => none⟩
def niliB (dst : Option Nat) (neg : Bool) (x : VX) : BI := ⟨fun _ _ cs => match x.ev cs.sf with
  | .niliface => some (cs.put dst (.bool (true != neg)))
  | .iface _ _ => some (cs.put dst (.bool (false != neg)))
  | _ => none⟩
def nilsB (dst : Option Nat) (x : VX) : BI := ⟨fun _ _ cs => match x.ev cs.sf with
  | .nils => some (cs.put dst (.bool true))
  | .sl _ (_ :: _) => some (cs.put dst (.bool false))
  | .own _ _ (_ + 1) => some (cs.put dst (.bool false))
  | _ => none⟩
def compO2 (dst : Option Nat) (op : VOp) : BI := match op with
  | .more (.inv tbl) (rx :: xs) => invB dst tbl rx xs
  | .more .alloc0 [] => ⟨fun _ _ cs => some (cs.put dst (.rp (.agg [])))⟩
  | .more .store0 [xa, xv] => store0B dst xa xv
  | .call fx xs => callB2 dst fx xs
  | .binB neg x (.c (.iface 2 .undef)) => nilfB dst neg x
  | .binB neg x (.c (.iface 1 .undef)) => niliB dst neg x
  | .binB false x (.c (.iface 0 .undef)) => nilsB dst x
  | op => compO false dst op
def compI2 (i : VIns) : BI := match i.g with
  | none => compO2 i.dst i.op
  | some (x, b) => ⟨fun call fl cs => guardB i.dst b (compO2 i.dst i.op) call fl cs (x.ev cs.sf)⟩
def evOps2N (call : CallT) (fl m : Nat) : List VIns → CS → Out :=
  @Nat.rec (fun _ => List VIns → CS → Out) (fun _ _ => .bad)
    (fun _ ih l cs => @List.casesOn VIns (fun _ => Out) l (.nx cs)
      (fun i l' => @BI.casesOn (fun _ => Out) (compI2 i) fun f => @Option.casesOn CS (fun _ => Out) (f call fl cs) .bad (ih l'))) m
def idLQ (g : V → List Nat) : List V → List Nat
  | [] => []
  | v :: vs => g v ++ idLQ g vs
def idsQ : Nat → Tr (Option Ob) → V → List Nat
  | 0, _, _ => []
  | f + 1, σ, v => match v with
    | .own id off len => id :: (match getP none id σ with
      | some ob => idLQ (idsQ f σ) ((ob.rows.drop off).take len)
      | none => [])
    | .ptr id i _ => id :: (match getP none id σ with
      | some ob => (match ob.rows[i]? with
        | some r => idsQ f σ r
        | none => [])
      | none => [])
    | .sl _ rows => idLQ (idsQ f σ) rows
    | .agg cs => idLQ (idsQ f σ) cs
    | .tup cs => idLQ (idsQ f σ) cs
    | .fn _ cs => idLQ (idsQ f σ) cs
    | .bm _ cs => idLQ (idsQ f σ) cs
    | .iface _ u => idsQ f σ u
    | _ => []
def drawIn (dst : Option Nat) (cs : CS) : Option Rs → Option CS
  | some r => @Bool.casesOn (fun _ => Option CS) r.v.noid (@Bool.casesOn (fun _ => Option CS) ((idsQ 40 r.σ r.v).all fun c => Nat.ble cs.nxt c) none (match fzQ 40 r.σ r.v with
    | some v => some (cs.put dst v)
    | none => none)) (some (cs.put dst r.v))
  | none => none
def callB3 (dst : Option Nat) (fx : VX) (xs : List VX) : BI := ⟨fun call _ cs => match fx.ev cs.sf with
  | .fn f caps => drawIn dst cs (call f (xs.map (·.ev cs.sf) ++ caps) cs.σ cs.nxt cs.nxt)
  | _ => none⟩
def compO3 (dst : Option Nat) (op : VOp) : BI := match op with
  | .call fx xs => callB3 dst fx xs
  | op => compO true dst op
def compI3 (i : VIns) : BI := match i.g with
  | none => compO3 i.dst i.op
  | some (x, b) => ⟨fun call fl cs => guardB i.dst b (compO3 i.dst i.op) call fl cs (x.ev cs.sf)⟩
def evOps3N (call : CallT) (fl m : Nat) : List VIns → CS → Out :=
  @Nat.rec (fun _ => List VIns → CS → Out) (fun _ _ => .bad)
    (fun _ ih l cs => @List.casesOn VIns (fun _ => Out) l (.nx cs)
      (fun i l' => @BI.casesOn (fun _ => Out) (compI3 i) fun f => @Option.casesOn CS (fun _ => Out) (f call fl cs) .bad (ih l'))) m
def evOps2 (draw : Bool) (call : CallT) (fl : Nat) (l : List VIns) (cs : CS) : Out := match draw with
  | true => evOps3N call fl 1000 l cs
  | false => evOps2N call fl 1000 l cs
def befQ : List (List Nat) → List (List Nat) → List (List Nat)
  | acc, [] => acc
  | acc, d :: ds => befQ (acc ++ [(d ++ d.flatMap fun i => acc.getD i []).eraseDups]) ds
def readyP (D : List (List Nat)) (n : Nat) (done : List Nat) : List Nat := (List.range n).filter fun i => !(done.contains i) && (D.getD i []).all done.contains
def stepM (l : List VIns) (D bef : List (List Nat)) (n : Nat) : Nat → List Nat → List Nat → List Nat × List Nat
  | 0, _, m => (m, [])
  | f + 1, done, m => match readyP D n done with
    | [] => (m, [])
    | i :: is => match (i :: is).find? (fun i => !(isEff l bef i)) with
      | some i => stepM l D bef n f (done ++ [i]) (m ++ [i])
      | none => match is with
        | [] => stepM l D bef n f (done ++ [i]) (m ++ [i])
        | _ :: _ => (m, i :: is)
def befS (bef : List (List Nat)) (S : List Nat) (s : Nat) : Nat → List (List Nat) → List (List Nat)
  | _, [] => []
  | j, b :: r => (if !(j == s) && (S.contains j || b.any fun i => S.contains i && !(i == s)) then (s :: (befAt bef s ++ b)).eraseDups else b) :: befS bef S s (j + 1) r
def planT (l : List VIns) : Nat → List (List Nat) → List (List Nat) → List Nat → PT
  | 0, _, _, _ => .leaf [] []
  | f + 1, D, bef, done => match stepM l D bef l.length (l.length + 1) done [] with
    | (m, []) => .leaf bef m
    | (m, s :: S) => .fork bef m (s :: S) ((s :: S).map fun q => planT l f (addS D (s :: S) q) (befS bef (s :: S) q 0 bef) (done ++ m))
def planC (l : List VIns) (deps : List (List Nat)) (t : PT) : Option PT := @Bool.casesOn (fun _ => Option PT) (chkT l 8 deps [] t) none (some t)
def planR (l : List VIns) (deps : List (List Nat)) : Option PT := planC l deps (planT l 7 deps (befQ [] deps) [])
def chkQ (call : CallT) (fl : Nat) (i : VIns) (cs : CS) : Bool := @Bool.casesOn (fun _ => Bool) (Nat.beq (okind i.op) 0) false (match (compI true i).f call fl cs with
  | some cs' => match i.dst with
    | some d => eqVQ 40 (cs'.sf d) (cs.sf d)
    | none => true
  | none => false)
def itsQ (call : CallT) (fl : Nat) (l : List VIns) : List Nat → CS → Out
  | [], cs => .nx cs
  | m :: ms, cs => match l[m / 2]? with
    | none => .bad
    | some i => @Bool.casesOn (fun _ => Out) (Nat.beq (m % 2) 0)
        (@Bool.casesOn (fun _ => Out) (chkQ call fl i cs) .bad (itsQ call fl l ms cs))
        (@Bool.casesOn (fun _ => Out) (Nat.ble (okind i.op) 3) .bad (match (compI false i).f call fl cs with
          | some cs' => itsQ call fl l ms cs'
          | none => .bad))
def rho (n N r c : Nat) : Nat := @Bool.casesOn (fun _ => Nat) (Nat.blt c n) (@Bool.casesOn (fun _ => Nat) (Nat.blt c N) c (@Bool.casesOn (fun _ => Nat) (Nat.blt (Nat.add c r) N) (Nat.sub (Nat.add c r) (Nat.sub N n)) (Nat.add c r))) c
def renV (ρ : Nat → Nat) : Nat → V → V → Bool
  | 0, _, _ => false
  | f + 1, v, u => match v with
    | .int k n => match u with
      | .int k' n' => eqK k k' && eqQ n n'
      | _ => false
    | .bool b => match u with
      | .bool b' => b == b'
      | _ => false
    | .str b => match u with
      | .str b' => decide (b = b')
      | _ => false
    | .nils => match u with
      | .nils => true
      | _ => false
    | .nilp => match u with
      | .nilp => true
      | _ => false
    | .nilfn => match u with
      | .nilfn => true
      | _ => false
    | .niliface => match u with
      | .niliface => true
      | _ => false
    | .own a b c => match u with
      | .own a' b' c' => Nat.beq (ρ a) a' && (Nat.beq b b' && Nat.beq c c')
      | _ => false
    | .ptr a b c => match u with
      | .ptr a' b' c' => Nat.beq (ρ a) a' && (Nat.beq b b' && Nat.beq c c')
      | _ => false
    | .yl a => match u with
      | .yl a' => Nat.beq (ρ a) a'
      | _ => false
    | .sl sz rows => match u with
      | .sl sz' rows' => Nat.beq sz sz' && eqLQ (renV ρ f) rows rows'
      | _ => false
    | .rp x => match u with
      | .rp y => renV ρ f x y
      | _ => false
    | .iface t x => match u with
      | .iface t' y => Nat.beq t t' && renV ρ f x y
      | _ => false
    | .fn g cs => match u with
      | .fn g' ds => Nat.beq g g' && eqLQ (renV ρ f) cs ds
      | _ => false
    | .bm g cs => match u with
      | .bm g' ds => Nat.beq g g' && eqLQ (renV ρ f) cs ds
      | _ => false
    | .agg cs => match u with
      | .agg ds => eqLQ (renV ρ f) cs ds
      | _ => false
    | .tup cs => match u with
      | .tup ds => eqLQ (renV ρ f) cs ds
      | _ => false
    | _ => false
def renO (ρ : Nat → Nat) (a b : Option Ob) : Bool := match a with
  | none => (match b with
    | none => true
    | some _ => false)
  | some x => (match b with
    | none => false
    | some y => Nat.beq x.elem y.elem && (Nat.beq x.sz y.sz && eqLQ (renV ρ 40) x.rows y.rows))
def trB {α : Type} (f : α → α → Bool) : Tr α → Tr α → Bool
  | .e, .e => true
  | .n l v r, .n l' v' r' => @Bool.casesOn (fun _ => Bool) (f v v') false (@Bool.casesOn (fun _ => Bool) (trB f l l') false (trB f r r'))
  | _, _ => false
def cutQ (σ : Tr (Option Ob)) (n : Nat) : Nat → Tr (Option Ob)
  | 0 => σ
  | m + 1 => setP none none (Nat.add n m) (cutQ σ n m)
def rowsB (ρ : Nat → Nat) (A B : Tr (Option Ob)) (n : Nat) : Nat → Bool
  | 0 => true
  | m + 1 => @Bool.casesOn (fun _ => Bool) (renO ρ (getP none (Nat.add n m) A) (getP none (ρ (Nat.add n m)) B)) false (rowsB ρ A B n m)
def renC (n N r : Nat) (A B : CS) : Bool := @Bool.casesOn (fun _ => Bool) (Nat.ble r (Nat.sub N n)) false (@Bool.casesOn (fun _ => Bool) (rowsB (rho n N r) A.σ B.σ n (Nat.sub N n)) false
  (@Bool.casesOn (fun _ => Bool) (trB (renV (rho n N r) 40) A.s B.s) false (trB (renO (rho n N r)) (cutQ A.σ n (Nat.sub N n)) (cutQ B.σ n (Nat.sub N n)))))
def someR (f : Nat → Bool) : Nat → Bool
  | 0 => f 0
  | m + 1 => @Bool.casesOn (fun _ => Bool) (f (Nat.succ m)) (someR f m) true
def chkR (fl n : Nat) (A B : CS) : Bool := @Bool.casesOn (fun _ => Bool) (Nat.beq A.nxt B.nxt && (Nat.ble fl n && Nat.ble n A.nxt)) false (someR (fun r => renC n A.nxt r A B) (Nat.sub A.nxt n))
def kidsE (g : PT → Out) (fl n : Nat) (A : CS) : List PT → Bool
  | [] => true
  | k :: r => match g k with
    | .nx B => @Bool.casesOn (fun _ => Bool) (chkR fl n A B) false (kidsE g fl n A r)
    | _ => false
def kidsO (g : PT → Out) (fl n : Nat) : List PT → Out
  | [] => .bad
  | k :: r => match g k with
    | .nx A => @Bool.casesOn (fun _ => Out) (kidsE g fl n A r) .bad (.nx A)
    | _ => .bad
def evT (call : CallT) (fl : Nat) (l : List VIns) : Nat → List Nat → PT → CS → Out
  | 0, _, _, _ => .bad
  | f + 1, pre, t, cs => match t with
    | .leaf bef r => itsQ call fl l (itemsF l bef pre r) cs
    | .fork bef m _ kids => match itsQ call fl l (itemsF l bef pre m) cs with
      | .nx cs0 => kidsO (fun k => evT call fl l f (pre ++ m) k cs0) fl cs0.nxt kids
      | _ => .bad
def evA (call : CallT) (fl : Nat) (l : List VIns) (deps : List (List Nat)) (cs : CS) : Out := @Option.casesOn PT (fun _ => Out) (planR l deps) .bad fun t => evT call fl l 8 [] t cs
def delLQ : List Nat → Tr (Option Ob) → Tr (Option Ob)
  | [], σ => σ
  | c :: cs, σ => delLQ cs (match getP none c σ with
    | some _ => setP none none c σ
    | none => σ)
def putLQ : List Nat → List V → Tr V → Tr V
  | p :: ps, x :: xs, s => putLQ ps xs (setP (.tup []) x p s)
  | _, _, s => s
def rngQ (s0 : Tr V) (ps : List Nat) (body : CS → Out) : List (List V) → Tr (Option Ob) → Nat → Out
  | [], σ, nxt => .nx ⟨s0, σ, nxt⟩
  | x :: xs, σ, nxt => match body ⟨putLQ ps x s0, σ, nxt⟩ with
    | .nx cs => rngQ s0 ps body xs cs.σ cs.nxt
    | .ex id cs => .ex id ⟨s0, cs.σ, cs.nxt⟩
    | .rt cs => .rt ⟨s0, cs.σ, cs.nxt⟩
    | .bad => .bad
def bodyQ (run : Nat → VCode → CS → Out) (a b : VCode) (cs : CS) : Out := match run 0 a cs with
  | .nx cs' => run 0 b cs'
  | _ => .bad
def rngG (run : Nat → VCode → CS → Out) (d : Nat) (gf : FuncId) (ps : List Nat) (a b : VCode) (cs : CS) (ids : List Nat) (caps : List V) (xs : List (List V)) : Out :=
  @Bool.casesOn (fun _ => Out) (xs.all fun x => noidL x && Nat.beq x.length ps.length) .bad
    (rngQ (setP (.tup []) (.fn gf caps) d cs.s) ps (bodyQ run a b) xs (delLQ ids cs.σ) cs.nxt)
def evR (run : Nat → VCode → CS → Out) (I : FuncId → Option (List V → Option (List (List V)))) (fl : Nat) (g : VX) (ps : List Nat) (a b : VCode) (cs : CS) : Out :=
  @Bool.casesOn (fun _ => Out) (Nat.beq fl 0) .bad (match g with
    | .t d => match cs.sf d with
      | .fn gf caps => match I gf with
        | some h => match fzLQ (fzQ 40 cs.σ) caps with
          | some caps' => match h caps' with
            | some xs => rngG run d gf ps a b cs (idLQ (idsQ 40 cs.σ) caps) caps' xs
            | none => .bad
          | none => .bad
        | none => .bad
      | _ => .bad
    | .c _ => .bad)
structure Tb where
  fn : FuncId → Option Fk
  it : FuncId → Option (List V → Option (List (List V)))
def evL2 (T : Tb) (fuel : Nat) : Nat → VCode → CS → Out :=
  @Nat.rec (fun _ => Nat → VCode → CS → Out) (fun _ _ _ => .bad)
    (fun _ ih fl c cs => match c with
      | .skip => .nx cs
      | .reg draw l => evOps2 draw (evF2 ih T.fn) fl l cs
      | .seq a b => onNx (ih fl a cs) fun cs' => ih fl b cs'
      | .cond c a b => onB (c.ev cs.sf) (ih fl a cs) (ih fl b cs)
      | .block id a => onEx id (ih fl a cs)
      | .loop a => onNx (ih fl a cs) fun cs' => ih fl (.loop a) cs'
      | .exit id => .ex id cs
      | .ret => .rt cs
      | .rangeF g ps a b => evR ih T.it fl g ps a b cs
      | .regA l deps => evA (evF2 ih T.fn) fl l deps cs
      | .regL l e => onNx (evOps2 true (evF2 ih T.fn) fl l cs) fun cs' => evOps2 false (evF2 ih T.fn) fl e cs'
      | .bad => .bad) fuel
end Go.Vc
namespace Go.Vc
variable {P : Program} {n : Nat}
def okCode2 : VCode → Bool
  | .reg _ l => l.all okIns
  | .seq a b => okCode2 a && okCode2 b
  | .cond c a b => okX c && (okCode2 a && okCode2 b)
  | .block _ a => okCode2 a
  | .loop a => okCode2 a
  | .rangeF _ _ a b => okCode2 a && okCode2 b
  | .regA l _ => l.all okIns
  | .regL l e => l.all okIns && e.all okIns
  | _ => true
def okFn2 (f : VFn) : Bool := okCode2 f.code && f.res.all okRes
theorem cop_alloc0 {o : Op} {xs : List VX} (h : cop P n o = .more .alloc0 xs) : ∃ t, o = .alloc t ∧ nullT P t = true := by
  cases o
  case alloc t =>
    simp only [cop] at h
    split at h
    · cases h
    · split at h
      · rename_i hn; exact ⟨t, rfl, hn⟩
      · cases h
  case call c =>
    obtain ⟨callee, args, argTypes⟩ := c
    cases callee
    case builtin b => cases b <;> simp only [cop] at h <;> (repeat' split at h) <;> cases h
    all_goals (simp only [cop] at h; cases h)
  case unOp op t x => cases op <;> simp only [cop] at h <;> cases h
  case makeFunc f a b => cases f <;> simp only [cop] at h <;> (repeat' split at h) <;> cases h
  case binOp op t x y yt => cases op <;> simp only [cop, nilB] at h <;> (repeat' split at h) <;> cases h
  all_goals (simp only [cop] at h; (repeat' split at h) <;> cases h)
theorem cop_store0 {o : Op} {xs : List VX} (h : cop P n o = .more .store0 xs) : ∃ t x y, o = .store t x y ∧ nullT P t = true ∧ xs = [cx n x, cx n y] := by
  cases o
  case store t x y =>
    simp only [cop] at h
    split at h
    · cases h
    · split at h
      · rename_i hn
        simp only [VOp.more.injEq, true_and] at h
        exact ⟨t, x, y, rfl, hn, h.symm⟩
      · cases h
  case call c =>
    obtain ⟨callee, args, argTypes⟩ := c
    cases callee
    case builtin b => cases b <;> simp only [cop] at h <;> (repeat' split at h) <;> cases h
    all_goals (simp only [cop] at h; cases h)
  case unOp op t x => cases op <;> simp only [cop] at h <;> cases h
  case makeFunc f a b => cases f <;> simp only [cop] at h <;> (repeat' split at h) <;> cases h
  case binOp op t x y yt => cases op <;> simp only [cop, nilB] at h <;> (repeat' split at h) <;> cases h
  all_goals (simp only [cop] at h; (repeat' split at h) <;> cases h)
theorem Runs.alloc0 {st : St} {Q : St → Prop} {k : List It} {i : VIns} {l : List VIns} (hw : wantV st.s i.g = some true) (ho : i.op = .more .alloc0 [])
    (h : Runs P n (.ops l :: k) ⟨putO st.s i.dst (.rp (.agg [])), st.σ⟩ Q) : Runs P n (.ops (i :: l) :: k) st Q := by
  refine Runs.ins (by rw [ho]; simp) hw fun F hn μ a w o all hi hs next Q' hnext => ?_
  subst hn
  obtain ⟨hop, hd⟩ := cins_op hi
  rw [ho] at hop
  obtain ⟨t, g1, hn⟩ := cop_alloc0 hop
  have hrun : (execOp a.eval o).run P w = .ok (.value (.pointer (some ⟨w.heap.size, 0, none⟩))) (w.alloc (.cells #[] t)) := by
    unfold execOp
    rw [g1]
    simp [Instr.alloc, run_zero0 hn, newVar, newRow, Value.cells]
  unfold Oper.wp
  rw [hrun]
  obtain ⟨h1, hk⟩ := hs.sat.more (.cells #[] t)
  refine hnext _ _ _ ⟨μ, ?_⟩ h
  rw [← hd]
  exact hs.step h1 (MuLe.refl μ) hk (by simp) (by simp only [Rep]; exact ⟨w.heap.size, 0, rfl, by simp, .inl rfl, by simp [RepRow, RepCells]⟩)
theorem Runs.store0 {st : St} {Q : St → Prop} {k : List It} {i : VIns} {l : List VIns} {xa xv : VX} {u : V} (hw : wantV st.s i.g = some true) (ho : i.op = .more .store0 [xa, xv]) (ha : xa.ev st.s = .rp u) (hv : xv.ev st.s = .agg [])
    (h : Runs P n (.ops l :: k) ⟨putO st.s i.dst (.tup []), st.σ⟩ Q) : Runs P n (.ops (i :: l) :: k) st Q := by
  refine Runs.ins (by rw [ho]; simp) hw fun F hn μ a w o all hi hs next Q' hnext => ?_
  subst hn
  obtain ⟨hop, hd⟩ := cins_op hi
  rw [ho] at hop
  obtain ⟨t, x, y, g1, hn, g2⟩ := cop_store0 hop
  simp only [List.cons.injEq, and_true] at g2
  obtain ⟨rfl, rfl⟩ := g2
  have R1 := rep_cx hs x
  have R2 := rep_cx hs y
  rw [ha] at R1
  rw [hv] at R2
  simp only [Rep] at R1 R2
  obtain ⟨b, off, e1, _⟩ := R1
  obtain ⟨vals, e2, e3, _⟩ := R2
  simp only [RepAll] at e3
  subst e3
  obtain ⟨ti, _, hti, hsz, _⟩ := nullT_iff hn
  have hrun : (execOp a.eval o).run P w = .ok .skip w := by
    unfold execOp
    rw [g1]
    simp [Instr.storeAt, Instr.sureAddr, e1, e2, storeVar, sizeOf, typeInfo, hti, hsz, Value.cells, storeCells]
  unfold Oper.wp
  rw [hrun]
  refine hnext _ _ _ ⟨μ, ?_⟩ h
  rw [← hd]
  exact hs.pure (by simp [Rep, RepAll, undef])
theorem Runs.nilS2 {st : St} {Q : St → Prop} {k : List It} {i : VIns} {l : List VIns} {xa : VX} (hw : wantV st.s i.g = some true) (ho : i.op = .binB false xa (.c (.iface 0 .undef))) {b : Bool}
    (hx : (xa.ev st.s = .nils ∧ b = true) ∨ (∃ sz r rows, xa.ev st.s = .sl sz (r :: rows) ∧ b = false) ∨ ∃ id off m, xa.ev st.s = .own id off (m + 1) ∧ b = false)
    (h : Runs P n (.ops l :: k) ⟨putO st.s i.dst (.bool b), st.σ⟩ Q) : Runs P n (.ops (i :: l) :: k) st Q := by
  refine Runs.ins (by rw [ho]; simp) hw fun F hn μ a w o all hi hs next Q' hnext => ?_
  subst hn
  obtain ⟨hop, hd⟩ := cins_op hi
  rw [ho] at hop
  obtain ⟨t, x, y, m, c, yt, e, g1, rfl, g2, rfl⟩ := cop_nilS hop
  have R := rep_cx hs x
  have hX : ∃ ba len cap, a.eval x = .slice ba len cap ∧ ba.isNone = b := by
    rcases hx with ⟨hx, rfl⟩ | ⟨sz, r, rows, hx, rfl⟩ | ⟨id, off, m, hx, rfl⟩
    · rw [hx] at R
      simp only [Rep] at R
      exact ⟨none, 0, 0, R, rfl⟩
    · rw [hx] at R
      simp only [Rep] at R
      obtain ⟨ba, cap, hX, _, hr⟩ := R
      rcases hr with hr | ⟨b, off, rfl, _⟩
      · cases hr
      · exact ⟨_, _, _, hX, rfl⟩
    · rw [hx] at R
      simp only [Rep] at R
      split at R
      · exact R.elim
      · exact absurd R.2.2 (by omega)
      · obtain ⟨o, c, hX, _⟩ := R
        exact ⟨_, _, _, hX, rfl⟩
  obtain ⟨ba, len, cap, hX, rfl⟩ := hX
  have hrun : (execOp a.eval o).run P w = .ok (.value (.bool ba.isNone)) w := by
    unfold execOp
    rw [g1]
    have hY : a.eval (.const (.slice none m c)) = .slice none m c := rfl
    simp [hX, hY, eqGuard, Lib.run_eql_slice_nil w t e ba len cap m c g2]
  unfold Oper.wp
  rw [hrun]
  refine hnext _ _ _ ⟨μ, ?_⟩ h
  rw [← hd]
  exact hs.pure (by simp [Rep])
def fkOk (P : Program) (g : FuncId) : Fk → Prop
  | .code vf => callable P g = true ∧ okFn2 vf = true ∧ ∃ fn, P.funcs[g]? = some fn ∧ cfn P fn = some vf
  | .fz vf => callable P g = true ∧ okFn2 vf = true ∧ ∃ fn, P.funcs[g]? = some fn ∧ cfn P fn = some vf
  | .orc h => ∀ as1 v, h as1 = some v → noidL as1 = true → v.noid = true → PFun P g as1 v
structure TOk (P : Program) (T : Tb) : Prop where
  mix : P.follows .mixedOrders = true
  fn : ∀ g k, T.fn g = some k → fkOk P g k
  it : ∀ g h, T.it g = some h → ∀ caps xs, h caps = some xs → noidL caps = true → Iter P g caps xs
theorem fzQ_okN {R : Nat → Nat → Prop} {σt : Tr (Option Ob)} {σ : Store} (hm : Lv R (stF σt) σ) {N : Nat → Prop} : ∀ (f : Nat) (v u v' : V), fzQ f σt v = some v' → VRel R v u →
    (∀ c ∈ idsQ f σt v, ∀ a o, R c a → stF σt c = some o → N a) → Fz σ N u v'
  | 0, _, _, _, h, _, _ => by simp [fzQ] at h
  | f + 1, v, u, v', h, hr, hN => by
    have hL : ∀ (vs us out : List V), fzLQ (fzQ f σt) vs = some out → VRelL R vs us → (∀ c ∈ idLQ (idsQ f σt) vs, ∀ a o, R c a → stF σt c = some o → N a) → FzL σ N us out := by
      intro vs
      induction vs with
      | nil =>
        intro us out h1 h2 _
        rw [VRelL.nil_iff] at h2; subst h2
        simp only [fzLQ, Option.some.injEq] at h1; subst h1
        exact .nil
      | cons a vs ih =>
        intro us out h1 h2 hN
        obtain ⟨b, bs, rfl, h3, h4⟩ := VRelL.cons_iff.1 h2
        simp only [idLQ, List.mem_append] at hN
        simp only [fzLQ] at h1
        split at h1
        · rename_i c hc
          split at h1
          · rename_i cs hcs
            simp only [Option.some.injEq] at h1; subst h1
            exact .cons _ _ _ _ (fzQ_okN hm f _ _ _ hc h3 fun c hc => hN c (.inl hc)) (ih _ _ hcs h4 fun c hc => hN c (.inr hc))
          · cases h1
        · cases h1
    cases v <;> simp only [fzQ, bcase] at h <;> simp only [idsQ] at hN
    case own id off len =>
      split at h
      · rename_i ob hob
        simp only [hob, List.mem_cons] at hN
        split at h
        · rename_i hle
          simp only [Option.map_eq_some_iff] at h
          obtain ⟨rows, h3, rfl⟩ := h
          simp only [VRel] at hr
          obtain ⟨id', rfl, hR⟩ := hr
          obtain ⟨rows', g1, g2⟩ := hm _ id' ob hR hob
          have := hL _ _ _ h3 ((g2.drop _).take _) fun c hc => hN c (.inr hc)
          exact .own id' _ _ ⟨ob.elem, ob.sz, rows'⟩ _ g1 (hN id (.inl rfl) id' ob hR hob) (by rw [g2.length]; exact Nat.le_of_ble_eq_true hle) this
        · cases h
      · cases h
    case ptr id i k =>
      split at h
      · rename_i hk
        split at h
        · rename_i ob hob
          split at h
          · rename_i r hri
            simp only [hob, hri, List.mem_cons] at hN
            simp only [Option.map_eq_some_iff] at h
            obtain ⟨r', h3, rfl⟩ := h
            simp only [VRel] at hr
            obtain ⟨id', rfl, hR⟩ := hr
            obtain ⟨rows', g1, g2⟩ := hm _ id' ob hR hob
            obtain ⟨q, g3, g4⟩ := g2.get hri
            have hk0 : k = 0 := Nat.eq_of_beq_eq_true hk
            subst hk0
            exact .ptr id' _ ⟨ob.elem, ob.sz, rows'⟩ q r' g1 (hN id (.inl rfl) id' ob hR hob) g3 (fzQ_okN hm f _ _ _ h3 g4 fun c hc => hN c (.inr hc))
          · cases h
        · cases h
      · cases h
    case iface t x =>
      simp only [VRel] at hr
      obtain ⟨y, rfl, hr⟩ := hr
      simp only [Option.map_eq_some_iff] at h
      obtain ⟨m, hm', rfl⟩ := h
      exact .iface _ _ _ (fzQ_okN hm f _ _ _ hm' hr hN)
    case sl sz rows =>
      simp only [VRel] at hr
      obtain ⟨y, rfl, hr⟩ := hr
      simp only [Option.map_eq_some_iff] at h
      obtain ⟨m, hm', rfl⟩ := h
      exact .sl _ _ _ (hL _ _ _ hm' hr hN)
    case agg =>
      simp only [VRel] at hr
      obtain ⟨y, rfl, hr⟩ := hr
      simp only [Option.map_eq_some_iff] at h
      obtain ⟨m, hm', rfl⟩ := h
      exact .agg _ _ (hL _ _ _ hm' hr hN)
    case tup =>
      simp only [VRel] at hr
      obtain ⟨y, rfl, hr⟩ := hr
      simp only [Option.map_eq_some_iff] at h
      obtain ⟨m, hm', rfl⟩ := h
      exact .tup _ _ (hL _ _ _ hm' hr hN)
    case fn =>
      simp only [VRel] at hr
      obtain ⟨y, rfl, hr⟩ := hr
      simp only [Option.map_eq_some_iff] at h
      obtain ⟨m, hm', rfl⟩ := h
      exact .fn _ _ _ (hL _ _ _ hm' hr hN)
    case bm =>
      simp only [VRel] at hr
      obtain ⟨y, rfl, hr⟩ := hr
      simp only [Option.map_eq_some_iff] at h
      obtain ⟨m, hm', rfl⟩ := h
      exact .bm _ _ _ (hL _ _ _ hm' hr hN)
    all_goals (split at h
               · rename_i hno
                 simp only [Option.some.injEq] at h; subst h
                 have := noid_eq _ _ hno hr
                 subst this
                 exact .same _ hno
               · cases h)
theorem fzLQ_okN {R : Nat → Nat → Prop} {σt : Tr (Option Ob)} {σ : Store} (hm : Lv R (stF σt) σ) {N : Nat → Prop} {f : Nat} : ∀ (vs us out : List V), fzLQ (fzQ f σt) vs = some out → VRelL R vs us →
    (∀ c ∈ idLQ (idsQ f σt) vs, ∀ a o, R c a → stF σt c = some o → N a) → FzL σ N us out
  | [], us, out, h1, h2, _ => by
    rw [VRelL.nil_iff] at h2; subst h2
    simp only [fzLQ, Option.some.injEq] at h1; subst h1
    exact .nil
  | a :: vs, us, out, h1, h2, hN => by
    obtain ⟨b, bs, rfl, h3, h4⟩ := VRelL.cons_iff.1 h2
    simp only [idLQ, List.mem_append] at hN
    simp only [fzLQ] at h1
    split at h1
    · rename_i c hc
      split at h1
      · rename_i cs hcs
        simp only [Option.some.injEq] at h1; subst h1
        exact .cons _ _ _ _ (fzQ_okN hm f _ _ _ hc h3 fun c hc => hN c (.inl hc)) (fzLQ_okN hm _ _ _ hcs h4 fun c hc => hN c (.inr hc))
      · cases h1
    · cases h1
section
variable {call : CallT} {K : Store} {fl : Nat} {R : Nat → Nat → Prop} {cs cs' : CS} {st : St} {Q : St → Prop} {k : List It}
theorem compI2_split {i : VIns} (hok : okIns i = true) (h : SRel K fl R cs st) (hr : (compI2 i).f call fl cs = some cs') :
    (wantV st.s i.g = some true ∧ (compO2 i.dst i.op).f call fl cs = some cs') ∨ (wantV st.s i.g = some false ∧ cs' = cs.put i.dst (.tup [])) := by
  simp only [okIns, Bool.and_eq_true] at hok
  unfold compI2 at hr
  split at hr
  · rename_i hg
    exact .inl ⟨by simp [hg, wantV], hr⟩
  · rename_i x b hg
    have hx := hok.2
    simp only [hg] at hx
    have hv := ev_rel h.slot hx
    simp only [guardB] at hr
    split at hr
    · rename_i c hc
      rw [hc, VRel.bool_iff] at hv
      rw [brec] at hr
      split at hr
      · rename_i hcb
        simp only [Option.some.injEq] at hr
        refine .inr ⟨?_, hr.symm⟩
        simp only [hg, wantV, hv]
        cases c <;> cases b <;> simp_all
      · rename_i hcb
        refine .inl ⟨?_, hr⟩
        simp only [hg, wantV, hv]
        cases c <;> cases b <;> simp_all
    · rename_i hc
      rw [hc] at hv
      simp only [VRel, VRelL] at hv
      obtain ⟨c', hv, rfl⟩ := hv
      simp only [Option.some.injEq] at hr
      exact .inr ⟨by simp only [hg, wantV, hv], hr.symm⟩
    · rename_i hc
      rw [hc, VRel.int_iff] at hv
      simp only [Option.some.injEq] at hr
      exact .inr ⟨by simp only [hg, wantV, hv], hr.symm⟩
    · cases hr
theorem ins_run0 (hc : CallOk P call) {i : VIns} {l : List VIns} (hok : okIns i = true) (h : SRel K fl R cs st) (hw : wantV st.s i.g = some true) (hr : (compO false i.dst i.op).f call fl cs = some cs')
    (hk : ∀ R' st', Le R R' → SRel K fl R' cs' st' → Runs P n (.ops l :: k) st' Q) : Runs P n (.ops (i :: l) :: k) st Q := by
  have hi : wantV st.s (⟨i.dst, i.op, none⟩ : VIns).g = some true := rfl
  have hok' : okIns ⟨i.dst, i.op, none⟩ = true := by
    simp only [okIns, Bool.and_eq_true] at hok ⊢
    exact ⟨hok.1, trivial⟩
  have := ins_run (P := P) (n := n) (k := k) (Q := Q) (l := l) hc hok' h (show (compI false ⟨i.dst, i.op, none⟩).f call fl cs = some cs' from hr) hk
  intro F hn kt hkt a w hs
  obtain ⟨z, kt', rfl, hy, hk'⟩ := kt_cons hkt
  cases z <;> simp only [KI.it, It.ops.injEq, reduceCtorEq] at hy
  rename_i all os
  cases os with
  | nil => simp at hy
  | cons o os =>
    simp only [List.map_cons, List.cons.injEq] at hy
    obtain ⟨hi1, hl⟩ := hy
    obtain ⟨μ, hs'⟩ := hs
    have hwant := want_of (P := P) hs' all o (b := true) (by rw [hn, hi1]; exact hw)
    have h2 := this F hn (.ops all ({ o with guard := none } :: os) :: kt') (by
      simp only [List.map_cons, KI.it, hk', List.cons.injEq, It.ops.injEq, hl, and_true]
      rw [← hi1]; rfl) a w ⟨μ, hs'⟩
    simp only [Kont, wpListIn, hwant, if_true] at h2 ⊢
    have e1 : Region.wanted { o with guard := none } (yielded all a.tmps) = true := rfl
    simp only [e1, if_true] at h2
    exact h2
theorem ins_run2 (hc : CallOk P call) {i : VIns} {l : List VIns} (hok : okIns i = true) (h : SRel K fl R cs st) (hr : (compI2 i).f call fl cs = some cs')
    (hk : ∀ R' st', Le R R' → SRel K fl R' cs' st' → Runs P n (.ops l :: k) st' Q) : Runs P n (.ops (i :: l) :: k) st Q := by
  have hop : okOp i.op = true := by simp only [okIns, Bool.and_eq_true] at hok; exact hok.1
  rcases compI2_split hok h hr with ⟨hw, hr⟩ | ⟨hw, rfl⟩
  · unfold compO2 at hr
    split at hr
    · rename_i tbl rx xs hop'
      rw [hop'] at hop
      simp only [okOp, VOp.xs, List.all_cons, Bool.and_eq_true] at hop
      simp only [invB] at hr
      split at hr
      · rename_i t v hv
        have hrx := ev_rel h.slot hop.1.1
        rw [hv] at hrx
        simp only [VRel] at hrx
        obtain ⟨v', hv', hvr⟩ := hrx
        split at hr
        · rename_i f hf
          generalize hcl : call f (v :: xs.map (·.ev cs.sf)) cs.σ cs.nxt fl = r at hr
          cases r with
          | none => simp [callIn] at hr
          | some r =>
            simp only [callIn, Option.some.injEq] at hr
            refine Runs.inv hw hop' hv' hf (hc _ _ _ _ _ _ hcl K R st.σ _ h.mem (VRelL.cons_iff.2 ⟨_, _, rfl, hvr, evs_rel h.slot hop.1.2⟩)) ?_
            rintro u σ' ⟨R', hle, hu, hm⟩
            have hS : SRel K fl R' ⟨cs.s, r.σ, r.nxt⟩ ⟨st.s, σ'⟩ := ⟨fun j => VRel.mono hle _ _ (h.slot j), hm⟩
            exact hk R' _ hle (hr ▸ hS.put hu)
        · cases hr
      · cases hr
    · rename_i hop'
      simp only [Option.some.injEq] at hr; subst hr
      exact Runs.alloc0 hw hop' (hk R _ (Le.refl R) (h.put (by simp [VRel, VRelL])))
    · rename_i xa xv hop'
      rw [hop'] at hop
      simp only [okOp, VOp.xs, List.all_cons, Bool.and_eq_true] at hop
      have h1 := ev_rel h.slot hop.1.1
      have h2 := ev_rel h.slot hop.1.2.1
      simp only [store0B] at hr
      split at hr
      · rename_i u hu
        rw [hu] at h1
        simp only [VRel] at h1
        obtain ⟨u', hu', _⟩ := h1
        split at hr
        · rename_i hv
          rw [hv] at h2
          simp only [VRel, VRelL] at h2
          obtain ⟨_, hv', rfl⟩ := h2
          simp only [Option.some.injEq] at hr; subst hr
          exact Runs.store0 hw hop' hu' hv' (hk R _ (Le.refl R) (h.put VRel.nilt))
        · cases hr
      · cases hr
    · rename_i fx xs hop'
      rw [hop'] at hop
      simp only [okOp, VOp.xs, List.all_cons, Bool.and_eq_true] at hop
      simp only [callB2] at hr
      split at hr
      · rename_i f caps hf
        have hfx := ev_rel h.slot hop.1.1
        rw [hf] at hfx
        simp only [VRel] at hfx
        obtain ⟨caps', hf', hcaps⟩ := hfx
        generalize hcl : call f (xs.map (·.ev cs.sf) ++ caps) cs.σ cs.nxt fl = r at hr
        cases r with
        | none => simp [callIn] at hr
        | some r =>
          simp only [callIn, Option.some.injEq] at hr
          refine Runs.call hw hop' hf' (hc _ _ _ _ _ _ hcl K R st.σ _ h.mem ((evs_rel h.slot hop.1.2).append hcaps)) ?_
          rintro v σ' ⟨R', hle, hv, hm⟩
          have hS : SRel K fl R' ⟨cs.s, r.σ, r.nxt⟩ ⟨st.s, σ'⟩ := ⟨fun j => VRel.mono hle _ _ (h.slot j), hm⟩
          exact hk R' _ hle (hr ▸ hS.put hv)
      · rename_i f caps hf
        have hfx := ev_rel h.slot hop.1.1
        rw [hf] at hfx
        simp only [VRel] at hfx
        obtain ⟨caps', hf', hcaps⟩ := hfx
        generalize hcl : call f (caps ++ xs.map (·.ev cs.sf)) cs.σ cs.nxt fl = r at hr
        cases r with
        | none => simp [callIn] at hr
        | some r =>
          simp only [callIn, Option.some.injEq] at hr
          refine Runs.callM hw hop' hf' (hc _ _ _ _ _ _ hcl K R st.σ _ h.mem (hcaps.append (evs_rel h.slot hop.1.2))) ?_
          rintro v σ' ⟨R', hle, hv, hm⟩
          have hS : SRel K fl R' ⟨cs.s, r.σ, r.nxt⟩ ⟨st.s, σ'⟩ := ⟨fun j => VRel.mono hle _ _ (h.slot j), hm⟩
          exact hk R' _ hle (hr ▸ hS.put hv)
      · cases hr
    · rename_i neg x hop'
      rw [hop'] at hop
      simp only [okOp, VOp.xs, List.all_cons, Bool.and_eq_true] at hop
      have hx := ev_rel h.slot hop.1.1
      simp only [nilfB] at hr
      split at hr
      · rename_i hv
        rw [hv] at hx
        simp only [VRel] at hx
        simp only [Option.some.injEq] at hr
        exact Runs.nilF hw hop' (.inl ⟨hx, rfl⟩) (hk R _ (Le.refl R) (hr ▸ h.put (by simp [VRel])))
      · rename_i f caps hv
        rw [hv] at hx
        simp only [VRel] at hx
        obtain ⟨caps', hx, _⟩ := hx
        simp only [Option.some.injEq] at hr
        exact Runs.nilF hw hop' (.inr ⟨f, caps', hx, rfl⟩) (hk R _ (Le.refl R) (hr ▸ h.put (by simp [VRel])))
      · cases hr
    · rename_i neg x hop'
      rw [hop'] at hop
      simp only [okOp, VOp.xs, List.all_cons, Bool.and_eq_true] at hop
      have hx := ev_rel h.slot hop.1.1
      simp only [niliB] at hr
      split at hr
      · rename_i hv
        rw [hv] at hx
        simp only [VRel] at hx
        simp only [Option.some.injEq] at hr
        exact Runs.nilI hw hop' (.inl ⟨hx, rfl⟩) (hk R _ (Le.refl R) (hr ▸ h.put (by simp [VRel])))
      · rename_i t' v' hv
        rw [hv] at hx
        simp only [VRel] at hx
        obtain ⟨u, hx, _⟩ := hx
        simp only [Option.some.injEq] at hr
        exact Runs.nilI hw hop' (.inr ⟨t', u, hx, rfl⟩) (hk R _ (Le.refl R) (hr ▸ h.put (by simp [VRel])))
      · cases hr
    · rename_i x hop'
      rw [hop'] at hop
      simp only [okOp, VOp.xs, List.all_cons, Bool.and_eq_true] at hop
      have hx := ev_rel h.slot hop.1.1
      simp only [nilsB] at hr
      split at hr
      · rename_i hv
        rw [hv] at hx
        simp only [VRel] at hx
        simp only [Option.some.injEq] at hr
        exact Runs.nilS2 hw hop' (.inl ⟨hx, rfl⟩) (hk R _ (Le.refl R) (hr ▸ h.put (by simp [VRel])))
      · rename_i sz r rows hv
        rw [hv] at hx
        simp only [VRel] at hx
        obtain ⟨rows', hx, hr'⟩ := hx
        obtain ⟨r', rows'', rfl, _, _⟩ := VRelL.cons_iff.1 hr'
        simp only [Option.some.injEq] at hr
        exact Runs.nilS2 hw hop' (.inr (.inl ⟨sz, r', rows'', hx, rfl⟩)) (hk R _ (Le.refl R) (hr ▸ h.put (by simp [VRel])))
      · rename_i id off m hv
        rw [hv] at hx
        simp only [VRel] at hx
        obtain ⟨id', hx, _⟩ := hx
        simp only [Option.some.injEq] at hr
        exact Runs.nilS2 hw hop' (.inr (.inr ⟨id', off, m, hx, rfl⟩)) (hk R _ (Le.refl R) (hr ▸ h.put (by simp [VRel])))
      · cases hr
    · exact ins_run0 hc hok h hw hr hk
  · exact Runs.skipIns hw (hk R _ (Le.refl R) (h.put VRel.nilt))
theorem evOps2N_cons (m : Nat) (i : VIns) (l : List VIns) : evOps2N call fl (m + 1) (i :: l) cs = match (compI2 i).f call fl cs with
    | some cs' => evOps2N call fl m l cs'
    | none => .bad := by
  show (@Option.casesOn CS (fun _ => Out) ((compI2 i).f call fl cs) .bad (evOps2N call fl m l)) = _
  cases (compI2 i).f call fl cs <;> rfl
theorem evOps2N_nx : ∀ (m : Nat) (l : List VIns) (cs : CS), (∃ cs', evOps2N call fl m l cs = .nx cs') ∨ evOps2N call fl m l cs = .bad
  | 0, _, _ => .inr rfl
  | m + 1, [], cs => .inl ⟨cs, rfl⟩
  | m + 1, i :: l, cs => by
    rw [evOps2N_cons]
    split
    · exact evOps2N_nx m l _
    · exact .inr rfl
theorem ops_run2 (hc : CallOk P call) : ∀ (m : Nat) (l : List VIns) (R : Nat → Nat → Prop) (cs : CS) (st : St), evOps2N call fl m l cs = .nx cs' → l.all okIns = true → SRel K fl R cs st →
    (∀ R' st', Le R R' → SRel K fl R' cs' st' → Runs P n k st' Q) → Runs P n (.ops l :: k) st Q
  | 0, _, _, _, _, h, _, _, _ => by cases h
  | m + 1, [], R, cs, st, h, _, hs, hk => by
    have h' : Out.nx cs = .nx cs' := h
    simp only [Out.nx.injEq] at h'
    subst h'
    exact Runs.ops_nil (hk R st (Le.refl R) hs)
  | m + 1, i :: l, R, cs, st, h, hok, hs, hk => by
    rw [evOps2N_cons] at h
    simp only [List.all_cons, Bool.and_eq_true] at hok
    split at h
    · rename_i cs1 h1
      refine ins_run2 hc hok.1 hs h1 fun R' st' hle hs' => ?_
      exact ops_run2 hc m l R' cs1 st' h hok.2 hs' fun R'' st'' hle' hs'' => hk R'' st'' (hle.trans hle') hs''
    · cases h
theorem compI3_split {i : VIns} (hok : okIns i = true) (h : SRel K fl R cs st) (hr : (compI3 i).f call fl cs = some cs') :
    (wantV st.s i.g = some true ∧ (compO3 i.dst i.op).f call fl cs = some cs') ∨ (wantV st.s i.g = some false ∧ cs' = cs.put i.dst (.tup [])) := by
  simp only [okIns, Bool.and_eq_true] at hok
  unfold compI3 at hr
  split at hr
  · rename_i hg
    exact .inl ⟨by simp [hg, wantV], hr⟩
  · rename_i x b hg
    have hx := hok.2
    simp only [hg] at hx
    have hv := ev_rel h.slot hx
    simp only [guardB] at hr
    split at hr
    · rename_i c hc
      rw [hc, VRel.bool_iff] at hv
      rw [brec] at hr
      split at hr
      · rename_i hcb
        simp only [Option.some.injEq] at hr
        refine .inr ⟨?_, hr.symm⟩
        simp only [hg, wantV, hv]
        cases c <;> cases b <;> simp_all
      · rename_i hcb
        refine .inl ⟨?_, hr⟩
        simp only [hg, wantV, hv]
        cases c <;> cases b <;> simp_all
    · rename_i hc
      rw [hc] at hv
      simp only [VRel, VRelL] at hv
      obtain ⟨c', hv, rfl⟩ := hv
      simp only [Option.some.injEq] at hr
      exact .inr ⟨by simp only [hg, wantV, hv], hr.symm⟩
    · rename_i hc
      rw [hc, VRel.int_iff] at hv
      simp only [Option.some.injEq] at hr
      exact .inr ⟨by simp only [hg, wantV, hv], hr.symm⟩
    · cases hr
theorem ins_T3 (hc : CallOk P call) {i : VIns} (hok : okIns i = true) (h : SRel K fl R cs st) (hr : (compI3 i).f call fl cs = some cs') {K' : St → Prop}
    (hk : ∀ R' st', Le R R' → SRel K fl R' cs' st' → K' st') : T P i st K' := by
  have hop : okOp i.op = true := by simp only [okIns, Bool.and_eq_true] at hok; exact hok.1
  rcases compI3_split hok h hr with ⟨hw, hr⟩ | ⟨hw, rfl⟩
  · refine T_true hw ?_
    unfold compO3 at hr
    split at hr
    · rename_i fx xs h0
      rw [h0] at hop
      rw [h0]
      simp only [callB3] at hr
      simp only [okOp, VOp.xs, List.all_cons, Bool.and_eq_true] at hop
      split at hr
      · rename_i f caps hf
        have hfx := ev_rel h.slot hop.1.1
        rw [hf] at hfx
        simp only [VRel] at hfx
        obtain ⟨caps', hf', hcaps⟩ := hfx
        generalize hcl : call f (xs.map (·.ev cs.sf) ++ caps) cs.σ cs.nxt cs.nxt = r at hr
        cases r with
        | none => simp [drawIn] at hr
        | some r =>
          have key : ∀ σ1, SubStore st.σ σ1 → MRel σ1 cs.nxt R (stF cs.σ) cs.nxt σ1 := fun σ1 hs1 => ⟨h.mem.dom, h.mem.live.sup hs1, h.mem.inj, h.mem.fn, SubStore.refl _, fun _ _ c _ _ hcR _ => h.mem.dom c _ hcR⟩
          simp only [drawIn, brec] at hr
          split at hr
          · rename_i hno
            simp only [Option.some.injEq] at hr
            refine ⟨f, caps', r.v, hf', fun σ1 hs1 => ?_, hk R _ (Le.refl R) (hr ▸ h.put (noid_refl r.v hno))⟩
            refine (hc _ _ _ _ _ _ hcl σ1 R σ1 _ (key σ1 hs1) ((evs_rel h.slot hop.1.2).append hcaps)).drop ?_
            rintro v σ' ⟨R', hle, hv, hm⟩
            exact ⟨σ1, hm.keep, noid_eq _ _ hno hv, rfl⟩
          · split at hr
            · rename_i hids
              split at hr
              · rename_i v hv
                have hno := fzQ_noid 40 _ _ _ hv
                simp only [Option.some.injEq] at hr
                refine ⟨f, caps', v, hf', fun σ1 hs1 => ?_, hk R _ (Le.refl R) (hr ▸ h.put (noid_refl v hno))⟩
                refine (hc _ _ _ _ _ _ hcl σ1 R σ1 _ (key σ1 hs1) ((evs_rel h.slot hop.1.2).append hcaps)).weak ?_
                rintro u σ' ⟨R', hle, hu, hm⟩
                refine ⟨v, σ1, hm.keep, (fzQ_okN (N := fun a => σ1 a = none) hm.live 40 _ _ _ hv hu fun c hcm a o hR ho => ?_).wk hm.keep fun _ h => h, rfl, rfl⟩
                have hge := List.all_eq_true.1 hids c hcm
                cases hk : σ1 a with
                | none => rfl
                | some x =>
                  have h1 := hm.kfl a x c o hk hR ho
                  have h2 := Nat.le_of_ble_eq_true hge
                  omega
              · cases hr
            · cases hr
      · cases hr
    · rename_i op hnc
      rcases okind_cases i.op with h0 | ⟨fx, xs, h0⟩ | ⟨sz, a, x, h0⟩ | h0 | ⟨sz, z, x, h0⟩ | h0
      · obtain ⟨v', h1, h2, h3⟩ := pure_case h0 hop h hr
        unfold TO
        simp only [h0]
        exact ⟨h1, v', h2, hk R _ (Le.refl R) h3⟩
      · exact absurd h0 (hnc fx xs)
      · rw [h0] at hr hop
        rw [h0]
        obtain ⟨σ', h1, h2⟩ := store_case hop h hr
        exact ⟨σ', h1, hk R _ (Le.refl R) h2⟩
      · obtain ⟨g', h1, h2⟩ := row_case h0 hop h hr
        unfold TO
        simp only [h0]
        refine ⟨g', h1, fun id hid => ?_⟩
        obtain ⟨R', h3, h4⟩ := h2 id hid
        exact hk R' _ h3 h4
      · rw [h0] at hr
        simp [compO, clearB] at hr
      · exact (bad_not h0 hr).elim
  · exact T_false hw (hk R _ (Le.refl R) (h.put VRel.nilt))
theorem evOps3N_cons (m : Nat) (i : VIns) (l : List VIns) : evOps3N call fl (m + 1) (i :: l) cs = match (compI3 i).f call fl cs with
    | some cs' => evOps3N call fl m l cs'
    | none => .bad := by
  show (@Option.casesOn CS (fun _ => Out) ((compI3 i).f call fl cs) .bad (evOps3N call fl m l)) = _
  cases (compI3 i).f call fl cs <;> rfl
theorem evOps3N_nx : ∀ (m : Nat) (l : List VIns) (cs : CS), (∃ cs', evOps3N call fl m l cs = .nx cs') ∨ evOps3N call fl m l cs = .bad
  | 0, _, _ => .inr rfl
  | m + 1, [], cs => .inl ⟨cs, rfl⟩
  | m + 1, i :: l, cs => by
    rw [evOps3N_cons]
    split
    · exact evOps3N_nx m l _
    · exact .inr rfl
theorem ops_T3 (hc : CallOk P call) {K' : St → Prop} : ∀ (m : Nat) (l : List VIns) (R : Nat → Nat → Prop) (cs : CS) (st : St), evOps3N call fl m l cs = .nx cs' → l.all okIns = true → SRel K fl R cs st →
    (∀ R' st', Le R R' → SRel K fl R' cs' st' → K' st') → TChain P K' l st
  | 0, _, _, _, _, h, _, _, _ => by cases h
  | m + 1, [], R, cs, st, h, _, hs, hk => by
    have h' : Out.nx cs = .nx cs' := h
    simp only [Out.nx.injEq] at h'
    subst h'
    exact hk R st (Le.refl R) hs
  | m + 1, i :: l, R, cs, st, h, hok, hs, hk => by
    rw [evOps3N_cons] at h
    simp only [List.all_cons, Bool.and_eq_true] at hok
    split at h
    · rename_i cs1 h1
      refine ins_T3 hc hok.1 hs h1 fun R' st' hle hs' => ?_
      exact ops_T3 hc m l R' cs1 st' h hok.2 hs' fun R'' st'' hle' hs'' => hk R'' st'' (hle.trans hle') hs''
    · cases h
theorem ins_TC (hc : CallOk P call) {i : VIns} (hok : okIns i = true) (hk3 : okind i.op ≤ 3) (h : SRel K fl R cs st) (hr : (compI false i).f call fl cs = some cs') {K' : St → Prop}
    (hk : ∀ R' st', Le R R' → SRel K fl R' cs' st' → K' st') : TC P i st K' := by
  have hop : okOp i.op = true := by simp only [okIns, Bool.and_eq_true] at hok; exact hok.1
  rcases compI_split hok h hr with ⟨hw, hr⟩ | ⟨hw, rfl⟩
  · rcases okind_cases i.op with h0 | ⟨fx, xs, h0⟩ | ⟨sz, a, x, h0⟩ | h0 | ⟨sz, z, x, h0⟩ | h0
    · obtain ⟨v', h1, h2, h3⟩ := pure_case h0 hop h hr
      refine .inl (T_true hw ?_)
      unfold TO
      simp only [h0]
      exact ⟨h1, v', h2, hk R _ (Le.refl R) h3⟩
    · rw [h0] at hr hop
      refine .inr ⟨hw, ?_⟩
      rw [h0]
      simp only [compO, callB] at hr
      simp only [okOp, VOp.xs, List.all_cons, Bool.and_eq_true] at hop
      split at hr
      · rename_i f caps hf
        have hfx := ev_rel h.slot hop.1.1
        rw [hf] at hfx
        simp only [VRel] at hfx
        obtain ⟨caps', hf', hcaps⟩ := hfx
        generalize hcl : call f (xs.map (·.ev cs.sf) ++ caps) cs.σ cs.nxt fl = r at hr
        cases r with
        | none => simp [callIn] at hr
        | some r =>
          simp only [callIn, Option.some.injEq] at hr
          refine ⟨f, caps', _, hf', hc _ _ _ _ _ _ hcl K R st.σ _ h.mem ((evs_rel h.slot hop.1.2).append hcaps), ?_⟩
          rintro v σ' ⟨R', hle, hv, hm⟩
          have hS : SRel K fl R' ⟨cs.s, r.σ, r.nxt⟩ ⟨st.s, σ'⟩ := ⟨fun j => VRel.mono hle _ _ (h.slot j), hm⟩
          exact hk R' _ hle (hr ▸ hS.put hv)
      · cases hr
    · refine .inl (T_true hw ?_)
      rw [h0] at hr hop
      rw [h0]
      obtain ⟨σ', h1, h2⟩ := store_case hop h hr
      exact ⟨σ', h1, hk R _ (Le.refl R) h2⟩
    · obtain ⟨g', h1, h2⟩ := row_case h0 hop h hr
      refine .inl (T_true hw ?_)
      unfold TO
      simp only [h0]
      refine ⟨g', h1, fun id hid => ?_⟩
      obtain ⟨R', h3, h4⟩ := h2 id hid
      exact hk R' _ h3 h4
    · rw [h0] at hk3; simp [okind] at hk3
    · exact (bad_not h0 hr).elim
  · exact .inl (T_false hw (hk R _ (Le.refl R) (h.put VRel.nilt)))
theorem chk_ok {i : VIns} (hok : okIns i = true) (h : SRel K fl R cs st) (hr : chkQ call fl i cs = true) : QYd P i st := by
  unfold chkQ at hr
  rw [bcase] at hr
  split at hr
  · rename_i hk0
    have hk0 := Nat.eq_of_beq_eq_true hk0
    split at hr
    · rename_i cs' hcs
      have hop : okOp i.op = true := by simp only [okIns, Bool.and_eq_true] at hok; exact hok.1
      have key : ∀ u, (∀ d, i.dst = some d → VRel R (cs'.sf d) u) → ∀ d, i.dst = some d → u = st.s d := fun u hu d hd => by
        rw [hd] at hr
        have := eqVQ_eq 40 _ _ hr
        have h1 := hu d hd
        rw [this] at h1
        exact VRel.fun h.mem.fn _ _ _ h1 (h.slot d)
      rcases compI_split hok h hcs with ⟨hw, hcs⟩ | ⟨hw, rfl⟩
      · obtain ⟨v', h1, h2, h3⟩ := pure_case hk0 hop h hcs
        have hq : QY P i st.s st.σ v' := .inl ⟨hw, by unfold QO; simp only [hk0]; exact ⟨h1, h2⟩⟩
        unfold QYd
        cases hd : i.dst with
        | none => exact ⟨v', hq⟩
        | some d =>
          simp only
          rw [← key v' (fun d' hd' => by
            have := h3.slot d'
            rw [hd'] at this
            simpa [putO] using this) d hd]
          exact hq
      · have hq : QY P i st.s st.σ (.tup []) := .inr ⟨hw, rfl⟩
        unfold QYd
        cases hd : i.dst with
        | none => exact ⟨_, hq⟩
        | some d =>
          simp only
          rw [← key (.tup []) (fun d' hd' => by
            have : (cs.put i.dst (.tup [])).sf d' = .tup [] := by rw [sf_put, hd']; simp [putO]
            rw [this]; exact VRel.nilt) d hd]
          exact hq
    · cases hr
  · cases hr
theorem itsQ_nx {l : List VIns} : ∀ (its : List Nat) (cs : CS), (∃ cs', itsQ call fl l its cs = .nx cs') ∨ itsQ call fl l its cs = .bad
  | [], cs => .inl ⟨cs, rfl⟩
  | m :: ms, cs => by
    simp only [itsQ, bcase]
    split
    · exact .inr rfl
    · split
      · split
        · split
          · exact itsQ_nx ms _
          · exact .inr rfl
        · exact .inr rfl
      · split
        · exact itsQ_nx ms _
        · exact .inr rfl
theorem its_run (hc : CallOk P call) {l : List VIns} (hok : l.all okIns = true) {K' : St → Prop} : ∀ (its : List Nat) (R : Nat → Nat → Prop) (cs : CS) (st : St), itsQ call fl l its cs = .nx cs' → SRel K fl R cs st →
    (∀ R' st', Le R R' → SRel K fl R' cs' st' → K' st') → RE P l K' its st
  | [], R, cs, st, h, hs, hk => by
    simp only [itsQ, Out.nx.injEq] at h
    subst h
    exact hk R st (Le.refl R) hs
  | m :: ms, R, cs, st, h, hs, hk => by
    simp only [itsQ, bcase] at h
    unfold RE
    split at h
    · cases h
    · rename_i i hi
      have hoki : okIns i = true := List.all_eq_true.1 hok i (List.mem_of_getElem? hi)
      try rw [hi]
      try simp only
      split at h
      · rename_i hm
        have hm := Nat.eq_of_beq_eq_true hm
        rw [if_pos hm]
        split at h
        · rename_i hk3
          split at h
          · rename_i cs1 h1
            exact ins_TC hc hoki (Nat.le_of_ble_eq_true hk3) hs h1 fun R' st' hle hs' => its_run hc hok ms R' cs1 st' h hs' fun R'' st'' hle' hs'' => hk R'' st'' (hle.trans hle') hs''
          · cases h
        · cases h
      · rename_i hm
        have hm' : ¬ m % 2 = 0 := fun e => hm (by rw [e]; rfl)
        rw [if_neg hm']
        split at h
        · rename_i hck
          exact ⟨chk_ok hoki hs hck, its_run hc hok ms R cs st h hs hk⟩
        · cases h
end
end Go.Vc
namespace Go.Vc
variable {P : Program} {n : Nat} {K : Store} {R : Nat → Nat → Prop} {k : List It} {Q : St → Prop}
theorem rho_lt {n N r c : Nat} (h : c < n) : rho n N r c = c := by
  have h1 : Nat.blt c n = true := Nat.ble_eq_true_of_le h
  unfold rho; rw [h1]
theorem rho_eq (n N r c : Nat) : rho n N r c = if c < n then c else if c < N then (if c + r < N then c + r else c + r - (N - n)) else c := by
  unfold rho
  simp only [bcase, Nat.blt_eq]
  rfl
theorem rho_lt_N {n N r c : Nat} (hn : n ≤ N) (hr : r ≤ N - n) (h : rho n N r c < N) : c < N := by
  rw [rho_eq] at h; split at h
  · omega
  · split at h <;> omega
theorem rho_inj {n N r c c' : Nat} (hn : n ≤ N) (hr : r ≤ N - n) (h : rho n N r c = rho n N r c') : c = c' := by
  simp only [rho_eq] at h
  by_cases h1 : c < n <;> by_cases h2 : c < N <;> by_cases h3 : c + r < N <;> by_cases h4 : c' < n <;> by_cases h5 : c' < N <;> by_cases h6 : c' + r < N <;> simp only [h1, h2, h3, h4, h5, h6, if_true, if_false] at h <;> omega
theorem rho_low {n N r c : Nat} (hn : n ≤ N) (hr : r ≤ N - n) (h : rho n N r c < n) : c = rho n N r c := by
  rw [rho_eq] at h ⊢
  split at h
  · rw [if_pos ‹_›]
  · split at h
    · split at h <;> omega
    · omega
theorem renV_rel {ρ : Nat → Nat} {R' : Nat → Nat → Prop} : ∀ (f : Nat) (v u x : V), renV ρ f v u = true → VRel R' u x → VRel (fun c a => R' (ρ c) a) v x
  | 0, _, _, _, h, _ => by simp [renV] at h
  | f + 1, v, u, x, h, hr => by
    have hL : ∀ {l m y : List V}, eqLQ (renV ρ f) l m = true → VRelL R' m y → VRelL (fun c a => R' (ρ c) a) l y := by
      intro l
      induction l with
      | nil =>
        intro m y h1 h2
        cases m with
        | nil => rw [VRelL.nil_iff] at h2; subst h2; simp [VRelL]
        | cons a b => simp [eqLQ] at h1
      | cons a l ih =>
        intro m y h1 h2
        cases m with
        | nil => simp [eqLQ] at h1
        | cons b m =>
          simp only [eqLQ, bcase] at h1
          split at h1
          · rename_i hab
            obtain ⟨z, zs, rfl, h3, h4⟩ := VRelL.cons_iff.1 h2
            exact VRelL.cons_iff.2 ⟨z, zs, rfl, renV_rel f _ _ _ hab h3, ih h1 h4⟩
          · cases h1
    cases v <;> cases u <;> simp only [renV, Bool.false_eq_true, Bool.and_eq_true, decide_eq_true_eq, beq_iff_eq] at h <;> simp only [VRel] at hr ⊢
    case int.int => rw [hr, eqQ_iff h.2, of_decide_eq_true (p := _ = _) h.1]
    case bool.bool => rw [hr, h]
    case str.str => rw [hr, h]
    case nils.nils => exact hr
    case nilp.nilp => exact hr
    case nilfn.nilfn => exact hr
    case niliface.niliface => exact hr
    case own.own => obtain ⟨i, rfl, r⟩ := hr; exact ⟨i, by rw [Nat.eq_of_beq_eq_true h.2.1, Nat.eq_of_beq_eq_true h.2.2], by rw [Nat.eq_of_beq_eq_true h.1]; exact r⟩
    case ptr.ptr => obtain ⟨i, rfl, r⟩ := hr; exact ⟨i, by rw [Nat.eq_of_beq_eq_true h.2.1, Nat.eq_of_beq_eq_true h.2.2], by rw [Nat.eq_of_beq_eq_true h.1]; exact r⟩
    case yl.yl => obtain ⟨i, rfl, r⟩ := hr; exact ⟨i, rfl, by rw [Nat.eq_of_beq_eq_true h]; exact r⟩
    case sl.sl => obtain ⟨y, rfl, r⟩ := hr; exact ⟨y, by rw [Nat.eq_of_beq_eq_true h.1], hL h.2 r⟩
    case rp.rp => obtain ⟨y, rfl, r⟩ := hr; exact ⟨y, rfl, renV_rel f _ _ _ h r⟩
    case iface.iface => obtain ⟨y, rfl, r⟩ := hr; exact ⟨y, by rw [Nat.eq_of_beq_eq_true h.1], renV_rel f _ _ _ h.2 r⟩
    case fn.fn => obtain ⟨y, rfl, r⟩ := hr; exact ⟨y, by rw [Nat.eq_of_beq_eq_true h.1], hL h.2 r⟩
    case bm.bm => obtain ⟨y, rfl, r⟩ := hr; exact ⟨y, by rw [Nat.eq_of_beq_eq_true h.1], hL h.2 r⟩
    case agg.agg => obtain ⟨y, rfl, r⟩ := hr; exact ⟨y, rfl, hL h r⟩
    case tup.tup => obtain ⟨y, rfl, r⟩ := hr; exact ⟨y, rfl, hL h r⟩
theorem renL_rel {ρ : Nat → Nat} {R' : Nat → Nat → Prop} {f : Nat} : ∀ {l m y : List V}, eqLQ (renV ρ f) l m = true → VRelL R' m y → VRelL (fun c a => R' (ρ c) a) l y
  | [], m, y, h1, h2 => by
    cases m with
    | nil => rw [VRelL.nil_iff] at h2; subst h2; simp [VRelL]
    | cons a b => simp [eqLQ] at h1
  | a :: l, m, y, h1, h2 => by
    cases m with
    | nil => simp [eqLQ] at h1
    | cons b m =>
      simp only [eqLQ, bcase] at h1
      split at h1
      · rename_i hab
        obtain ⟨z, zs, rfl, h3, h4⟩ := VRelL.cons_iff.1 h2
        exact VRelL.cons_iff.2 ⟨z, zs, rfl, renV_rel f _ _ _ hab h3, renL_rel h1 h4⟩
      · cases h1
theorem trB_gL {α : Type} {f : α → α → Bool} {d : α} (hd : f d d = true) : ∀ (p : List Bool) (t t' : Tr α), trB f t t' = true → f (gL d p t) (gL d p t') = true
  | p, .e, .e, _ => by rw [gL_e]; exact hd
  | [], .n l v r, .n l' v' r', h => by
    simp only [trB, bcase] at h
    split at h
    · rename_i hv; exact hv
    · cases h
  | b :: p, .n l v r, .n l' v' r', h => by
    simp only [trB, bcase] at h
    split at h
    · split at h
      · rename_i hl
        cases b
        · exact trB_gL hd p r r' h
        · exact trB_gL hd p l l' hl
      · cases h
    · cases h
  | _, .e, .n _ _ _, h => by simp [trB] at h
  | _, .n _ _ _, .e, h => by simp [trB] at h
theorem trB_get {α : Type} {f : α → α → Bool} {d : α} (hd : f d d = true) {t t' : Tr α} (h : trB f t t' = true) (i : Nat) : f (getP d i t) (getP d i t') = true := by
  unfold getP
  rw [getN_eq _ _ _ _ (pathOf_len i), getN_eq _ _ _ _ (pathOf_len i)]
  exact trB_gL hd _ _ _ h
theorem cutQ_get {σ : Tr (Option Ob)} {n i : Nat} : ∀ {m : Nat}, (i < n ∨ n + m ≤ i) → getP none i (cutQ σ n m) = getP none i σ
  | 0, _ => rfl
  | m + 1, h => by
    have e : Nat.add n m = n + m := rfl
    rw [cutQ, getP_set, if_neg (by omega)]
    exact cutQ_get (by omega)
theorem rowsB_get {ρ : Nat → Nat} {A B : Tr (Option Ob)} {n : Nat} : ∀ {m : Nat}, rowsB ρ A B n m = true → ∀ i, n ≤ i → i < n + m → renO ρ (getP none i A) (getP none (ρ i) B) = true
  | 0, _, i, _, _ => by omega
  | m + 1, h, i, h1, h2 => by
    simp only [rowsB, bcase] at h
    split at h
    · rename_i hr
      by_cases e : i = n + m
      · subst e; exact hr
      · exact rowsB_get h i h1 (by omega)
    · cases h
theorem someR_spec {f : Nat → Bool} : ∀ {m : Nat}, someR f m = true → ∃ r, f r = true
  | 0, h => ⟨0, h⟩
  | m + 1, h => by
    simp only [someR, bcase] at h
    split at h
    · rename_i hf; exact ⟨_, hf⟩
    · exact someR_spec h
theorem renO_rel {ρ : Nat → Nat} {a b : Option Ob} (h : renO ρ a b = true) {o : Ob} (ha : a = some o) : ∃ o', b = some o' ∧ o.elem = o'.elem ∧ o.sz = o'.sz ∧ eqLQ (renV ρ 40) o.rows o'.rows = true := by
  subst ha
  cases b with
  | none => simp [renO] at h
  | some o' =>
    simp only [renO, Bool.and_eq_true] at h
    exact ⟨o', rfl, Nat.eq_of_beq_eq_true h.1, Nat.eq_of_beq_eq_true h.2.1, h.2.2⟩
theorem chkR_ok {fl m : Nat} {A B : CS} (h : chkR fl m A B = true) {R0 R' : Nat → Nat → Prop} (hd : ∀ c a, R0 c a → c < m) (hle : Le R0 R') {st : St} (hs : SRel K fl R' B st) : ∃ R'', Le R0 R'' ∧ SRel K fl R'' A st := by
  unfold chkR at h
  rw [bcase] at h
  split at h
  · rename_i hc
    simp only [Bool.and_eq_true, Nat.ble_eq] at hc
    obtain ⟨hN, hfl, hmN⟩ := hc
    have hN := Nat.eq_of_beq_eq_true hN
    obtain ⟨r, hr⟩ := someR_spec h
    generalize hNN : A.nxt = N at *
    unfold renC at hr
    rw [bcase] at hr
    split at hr
    · rename_i hrN
      rw [bcase] at hr
      split at hr
      · rename_i hrows
        rw [bcase] at hr
        split at hr
        · rename_i hsl
          have hrN : r ≤ N - m := Nat.le_of_ble_eq_true hrN
          generalize hρ : rho m N r = ρ at *
          have key : ∀ c o, stF A.σ c = some o → ∃ o', stF B.σ (ρ c) = some o' ∧ o.elem = o'.elem ∧ o.sz = o'.sz ∧ eqLQ (renV ρ 40) o.rows o'.rows = true := by
            intro c o ho
            by_cases hin : m ≤ c ∧ c < N
            · exact renO_rel (rowsB_get hrows c hin.1 (by have : Nat.sub N m = N - m := rfl; omega)) ho
            · have hcc : ρ c = c := by rw [← hρ, rho_eq]; split <;> (try split) <;> omega
              have h1 := trB_get (d := none) (by simp [renO]) hr c
              rw [cutQ_get (by have : Nat.sub N m = N - m := rfl; omega), cutQ_get (by have : Nat.sub N m = N - m := rfl; omega)] at h1
              rw [hcc]
              exact renO_rel h1 ho
          refine ⟨fun c a => R' (ρ c) a, fun c a hR => ?_, ⟨fun i => ?_, ?_⟩⟩
          · have : ρ c = c := by rw [← hρ]; exact rho_lt (hd c a hR)
            show R' (ρ c) a
            rw [this]; exact hle c a hR
          · have h1 : renV ρ 40 (A.sf i) (B.sf i) = true := trB_get (d := V.tup []) (by simp [renV, eqLQ]) hsl i
            exact renV_rel 40 _ _ _ h1 (hs.slot i)
          · have hm := hs.mem
            refine ⟨fun c a hR => ?_, fun c a o hR ho => ?_, fun c c' a o o' h1 h2 h3 h4 => ?_, fun c a a' h1 h2 => hm.fn _ a a' h1 h2, hm.keep, fun a o c oc h1 h2 h3 => ?_⟩
            · have h1 := hm.dom _ a hR
              rw [← hN] at h1
              rw [hNN]
              exact rho_lt_N hmN hrN (by rw [hρ]; exact h1)
            · obtain ⟨o', g1, g2, g3, g4⟩ := key c o ho
              obtain ⟨rows', g5, g6⟩ := hm.live _ a o' hR g1
              exact ⟨rows', by rw [g2, g3]; exact g5, renL_rel g4 g6⟩
            · obtain ⟨x, g1, _⟩ := key c o h3
              obtain ⟨y, g2, _⟩ := key c' o' h4
              have := hm.inj _ _ a x y h1 h2 g1 g2
              rw [← hρ] at this
              exact rho_inj hmN hrN this
            · obtain ⟨x, g1, _⟩ := key c oc h3
              have h4 := hm.kfl a o _ x h1 h2 g1
              have h5 : rho m N r c < m := by rw [hρ]; omega
              have h6 := rho_low hmN hrN h5
              rw [h6, hρ]; exact h4
        · cases hr
      · cases hr
    · cases hr
  · cases h
theorem kidsE_spec {g : PT → Out} {fl m : Nat} {A : CS} : ∀ {kids : List PT}, kidsE g fl m A kids = true → ∀ k ∈ kids, ∃ B, g k = .nx B ∧ chkR fl m A B = true
  | [], _, k, hk => by cases hk
  | a :: r, h, k, hk => by
    simp only [kidsE] at h
    split at h
    · rename_i B hB
      rw [brec] at h
      split at h
      · rename_i hc
        rcases List.mem_cons.1 hk with rfl | hk
        · exact ⟨B, hB, hc⟩
        · exact kidsE_spec h k hk
      · cases h
    · cases h
theorem evT_nx {call : CallT} {fl : Nat} {l : List VIns} : ∀ (f : Nat) (pre : List Nat) (t : PT) (cs : CS), (∃ cs', evT call fl l f pre t cs = .nx cs') ∨ evT call fl l f pre t cs = .bad
  | 0, _, _, _ => .inr rfl
  | f + 1, pre, t, cs => by
    cases t with
    | leaf bef r => exact itsQ_nx (call := call) (fl := fl) (l := l) _ cs
    | fork bef m S kids =>
      simp only [evT]
      split
      · rename_i cs0 h0
        cases kids with
        | nil => exact .inr rfl
        | cons k r =>
          simp only [kidsO]
          split
          · rw [brec]
            split
            · exact .inl ⟨_, rfl⟩
            · exact .inr rfl
          · exact .inr rfl
      · exact .inr rfl
theorem evT_ok {call : CallT} {fl : Nat} (hc : CallOk P call) {l : List VIns} (hok : l.all okIns = true) {K' : St → Prop} : ∀ (f : Nat) (pre : List Nat) (t : PT) (R : Nat → Nat → Prop) (cs : CS) (st : St) {cs' : CS}, evT call fl l f pre t cs = .nx cs' → SRel K fl R cs st →
    (∀ R' st', Le R R' → SRel K fl R' cs' st' → K' st') → GT P l K' f pre t st
  | 0, _, _, _, _, _, _, h, _, _ => by cases h
  | f + 1, pre, t, R, cs, st, cs', h, hs, hk => by
    cases t with
    | leaf bef r => exact its_run hc hok _ R cs st h hs hk
    | fork bef m S kids =>
      simp only [evT] at h
      split at h
      · rename_i cs0 h0
        refine its_run hc hok _ R cs st h0 hs fun R0 st0 hle0 hs0 => ?_
        cases kids with
        | nil => cases h
        | cons k r =>
          simp only [kidsO] at h
          split at h
          · rename_i A hA
            rw [brec] at h
            split at h
            · rename_i hE
              simp only [Out.nx.injEq] at h; subst h
              intro kid hkid
              rcases List.mem_cons.1 hkid with rfl | hkid
              · exact evT_ok hc hok f _ _ R0 cs0 st0 hA hs0 fun R1 st1 hle1 hs1 => hk R1 st1 (hle0.trans hle1) hs1
              · obtain ⟨B, hB, hck⟩ := kidsE_spec hE kid hkid
                refine evT_ok hc hok f _ _ R0 cs0 st0 hB hs0 fun R1 st1 hle1 hs1 => ?_
                obtain ⟨R2, hle2, hs2⟩ := chkR_ok hck (fun c a h => hs0.mem.dom c a h) hle1 hs1
                exact hk R2 st1 (hle0.trans hle2) hs2
            · cases h
          · cases h
      · cases h
theorem planR_ok {l : List VIns} {deps : List (List Nat)} {t : PT} (h : planR l deps = some t) : chkT l 8 deps [] t = true := by
  unfold planR planC at h
  rw [bcase] at h
  split at h
  · rename_i hc
    simp only [Option.some.injEq] at h; subst h; exact hc
  · cases h
end Go.Vc
namespace Go.Vc
variable {P : Program} {n : Nat} {K : Store} {R : Nat → Nat → Prop} {k : List It} {Q : St → Prop}
theorem MRel.remC {fl nxt : Nat} {σc σ : Store} (h : MRel K fl R σc nxt σ) (c : Nat) : MRel K fl R (del σc c) nxt σ := by
  have hlive : ∀ i x, del σc c i = some x → σc i = some x := fun i x hx => by
    by_cases e : i = c
    · subst e; simp [Vc.del] at hx
    · rw [del_ne e] at hx; exact hx
  exact ⟨h.dom, fun c1 a1 o1 h1 h2 => h.live c1 a1 o1 h1 (hlive _ _ h2), fun c1 c2 a1 o1 o2 h1 h2 h3 h4 => h.inj c1 c2 a1 o1 o2 h1 h2 (hlive _ _ h3) (hlive _ _ h4), h.fn, h.keep,
    fun a1 o1 c1 oc h1 h2 h3 => h.kfl a1 o1 c1 oc h1 h2 (hlive _ _ h3)⟩
theorem delLQ_rel {nxt : Nat} : ∀ (ids : List Nat) (σt : Tr (Option Ob)) (σ : Store), MRel K 0 R (stF σt) nxt σ → ∃ σ', SubStore σ' σ ∧ MRel K 0 R (stF (delLQ ids σt)) nxt σ' ∧
    ∀ c ∈ ids, ∀ a o, R c a → stF σt c = some o → σ' a = none
  | [], σt, σ, h => ⟨σ, SubStore.refl _, h, by simp⟩
  | c :: cs, σt, σ, h => by
    cases hc : getP none c σt with
    | none =>
      obtain ⟨σ', h1, h2, h3⟩ := delLQ_rel cs σt σ h
      refine ⟨σ', h1, by simp only [delLQ, hc]; exact h2, fun c' hc' a o hR ho => ?_⟩
      rcases List.mem_cons.1 hc' with rfl | hc'
      · have : stF σt c' = none := hc
        rw [this] at ho; cases ho
      · exact h3 c' hc' a o hR ho
    | some ob =>
      have hob : stF σt c = some ob := hc
      have hdel : stF (setP none none c σt) = del (stF σt) c := stF_del _ _
      have hoth : ∀ c' o, c' ≠ c → stF σt c' = some o → stF (setP none none c σt) c' = some o := fun c' o hne ho => by rw [hdel, del_ne hne]; exact ho
      by_cases hex : ∃ a, R c a
      · obtain ⟨a0, ha0⟩ := hex
        have hm1 := h.rem ha0 hob (Nat.zero_le _)
        rw [← hdel] at hm1
        obtain ⟨σ', h1, h2, h3⟩ := delLQ_rel cs _ _ hm1
        refine ⟨σ', h1.trans fun i o hi => ?_, by simp only [delLQ, hc]; exact h2, fun c' hc' a o hR ho => ?_⟩
        · by_cases e : i = a0
          · subst e; simp [Vc.del] at hi
          · rw [del_ne e] at hi; exact hi
        · by_cases e : c' = c
          · subst e
            have := h.fn _ _ _ hR ha0
            subst this
            exact h1.none (by simp [Vc.del])
          · exact h3 c' ((List.mem_cons.1 hc').resolve_left e) a o hR (hoth c' o e ho)
      · have hm1 := h.remC c
        rw [← hdel] at hm1
        obtain ⟨σ', h1, h2, h3⟩ := delLQ_rel cs _ _ hm1
        refine ⟨σ', h1, by simp only [delLQ, hc]; exact h2, fun c' hc' a o hR ho => ?_⟩
        by_cases e : c' = c
        · subst e; exact absurd ⟨a, hR⟩ hex
        · exact h3 c' ((List.mem_cons.1 hc').resolve_left e) a o hR (hoth c' o e ho)
theorem putLQ_rel : ∀ (ps : List Nat) (x : List V) (s0 : Tr V) (s : Nat → V), noidL x = true → (∀ i, VRel R (getP (.tup []) i s0) (s i)) → ∀ i, VRel R (getP (.tup []) i (putLQ ps x s0)) (putL s ps x i)
  | [], x, s0, s, _, h, i => by simp only [putLQ, putL]; exact h i
  | _ :: _, [], s0, s, _, h, i => by simp only [putLQ, putL]; exact h i
  | p :: ps, x :: xs, s0, s, hx, h, i => by
    simp only [noidL, Bool.and_eq_true] at hx
    simp only [putLQ, putL]
    refine putLQ_rel ps xs _ _ hx.2 (fun j => ?_) i
    rw [getP_set]
    split
    · exact noid_refl x hx.1
    · exact h j
def bsd (σJ σ τ : Store) : Store := fun id => match σJ id, σ id with
  | none, some _ => none
  | _, _ => τ id
theorem bsd_none {σJ σ τ : Store} {id : Nat} {o : Ob} (h : σJ id = none) (h' : σ id = some o) : bsd σJ σ τ id = none := by simp [bsd, h, h']
theorem bsd_keep {σJ σ τ : Store} {id : Nat} (h : ¬ (σJ id = none ∧ σ id ≠ none)) : bsd σJ σ τ id = τ id := by
  unfold bsd
  split
  · rename_i h1 h2; exact absurd ⟨h1, by rw [h2]; simp⟩ h
  · rfl
theorem beside_back {σJ σ τ : Store} {σc σc2 : Store} {nx nx2 : Nat} {R2 : Nat → Nat → Prop} (hm0 : MRel K 0 R σc nx σJ) (hm2 : MRel (fun id => match σJ id with | none => σ id | some _ => K id) 0 R2 σc2 nx2 τ) :
    ∃ σ2, Beside σJ σ σ2 τ ∧ MRel K 0 R2 σc2 nx2 σ2 := by
  have hK : ∀ id, σJ id = none → (match σJ id with | none => σ id | some _ => K id) = σ id := fun id h => by rw [h]
  have hK' : ∀ id o, σJ id = some o → (match σJ id with | none => σ id | some _ => K id) = K id := fun id o h => by rw [h]
  have key : ∀ c a o, R2 c a → σc2 c = some o → ¬ (σJ a = none ∧ σ a ≠ none) := by
    rintro c a o hc ho ⟨h1, h2⟩
    cases hs : σ a with
    | none => exact h2 hs
    | some x => have := hm2.kfl a x c o (by rw [hK a h1]; exact hs) hc ho; omega
  refine ⟨bsd σJ σ τ, ⟨fun id o h => ?_, fun id o h1 h2 => ⟨hm2.keep id o (by rw [hK id h1]; exact h2), bsd_none h1 h2⟩⟩, hm2.dom, ?_, hm2.inj, hm2.fn, ?_, ?_⟩
  · by_cases hc : σJ id = none ∧ σ id ≠ none
    · cases hs : σ id with
      | none => exact absurd hs hc.2
      | some x => rw [bsd_none hc.1 hs] at h; cases h
    · rw [bsd_keep hc] at h; exact h
  · intro c a o hc ho
    obtain ⟨rows, h1, h2⟩ := hm2.live c a o hc ho
    exact ⟨rows, by rw [bsd_keep (key c a o hc ho)]; exact h1, h2⟩
  · intro id o h
    have h1 := hm0.keep id o h
    rw [bsd_keep (by rw [h1]; simp)]
    exact hm2.keep id o (by rw [hK' id o h1]; exact h)
  · intro a o c oc h1 h2 h3
    exact hm2.kfl a o c oc (by rw [hK' a o (hm0.keep a o h1)]; exact h1) h2 h3
theorem rng_ok {run : Nat → VCode → CS → Out}
    (ih : ∀ (K : Store) (R : Nat → Nat → Prop) (c : VCode) (cs : CS) (st : St) (k : List It) (Q : St → Prop), okCode2 c = true → SRel K 0 R cs st → Then P n K 0 R k Q (run 0 c cs) → Runs P n (.code c :: k) st Q)
    {d gf : Nat} {ps : List Nat} {a b : VCode} {caps : List V} {xs : List (List V)} (hit : Iter P gf caps xs) (ha : okCode2 a = true) (hb : okCode2 b = true)
    (hxs : (xs.all fun x => noidL x && Nat.beq x.length ps.length) = true) {s0 : Tr V} {σt : Tr (Option Ob)} {nxt : Nat} {st : St} (hs : SRel K 0 R ⟨s0, σt, nxt⟩ st) (hg : st.s d = .fn gf caps)
    (hthen : Then P n K 0 R k Q (rngQ s0 ps (bodyQ run a b) xs σt nxt)) : Runs P n (.code (.rangeF (.t d) ps a b) :: k) st Q := by
  generalize hT : rngQ s0 ps (bodyQ run a b) xs σt nxt = total at hthen
  have hall : ∀ x ∈ xs, noidL x = true ∧ x.length = ps.length := fun x hx => by
    have := List.all_eq_true.1 hxs x hx
    simp only [Bool.and_eq_true] at this
    exact ⟨this.1, Nat.eq_of_beq_eq_true this.2⟩
  refine Runs.rangeF (g := .t d) hg hit (fun x hx => (hall x hx).2) (match total with | .ex id _ => [id] | _ => [])
    (fun pre σa => ∃ σc nx R', Le R R' ∧ MRel K 0 R' (stF σc) nx σa ∧ rngQ s0 ps (bodyQ run a b) (xs.drop pre.length) σc nx = total)
    (fun e _ σa => ∃ cs' R', Le R R' ∧ MRel K 0 R' (stF cs'.σ) cs'.nxt σa ∧ cs'.s = s0 ∧ total = (match e with | some id => .ex id cs' | none => .rt cs'))
    ⟨σt, nxt, R, Le.refl R, hs.mem, hT⟩ ?_ ?_ ?_ ?_
  · rintro pre x post σJ σ hxs' ⟨σc, nx, R', hle, hm, htot⟩ hsub
    have hdrop : xs.drop pre.length = x :: post := by rw [hxs']; simp
    rw [hdrop] at htot
    have hno := (hall x (by rw [hxs']; simp)).1
    have hm' : MRel (fun id => match σJ id with | none => σ id | some _ => K id) 0 R' (stF σc) nx σ := by
      refine ⟨hm.dom, hm.live.sup hsub, hm.inj, hm.fn, fun id o h => ?_, fun a o c oc h1 h2 h3 => ?_⟩
      · have h : (match σJ id with | none => σ id | some _ => K id) = some o := h
        split at h
        · exact h
        · exact hsub _ _ (hm.keep _ _ h)
      · have h1 : (match σJ a with | none => σ a | some _ => K a) = some o := h1
        split at h1
        · rename_i hn
          obtain ⟨r, hr, _⟩ := hm.live c a oc h2 h3
          rw [hn] at hr; cases hr
        · exact hm.kfl a o c oc h1 h2 h3
    have hS : SRel (fun id => match σJ id with | none => σ id | some _ => K id) 0 R' ⟨putLQ ps x s0, σc, nx⟩ ⟨putL st.s ps x, σ⟩ :=
      ⟨putLQ_rel ps x s0 st.s hno fun i => VRel.mono hle _ _ (hs.slot i), hm'⟩
    have hnext : xs.drop (pre ++ [x]).length = post := by rw [hxs']; simp
    refine ih _ R' a _ _ _ _ ha hS ?_
    simp only [rngQ, bodyQ] at htot
    generalize run 0 a ⟨putLQ ps x s0, σc, nx⟩ = oa at htot
    cases oa with
    | nx cs1 =>
      intro R1 st1 hle1 hs1
      refine Runs.stop ?_
      refine ih _ R1 b cs1 st1 _ _ hb hs1 ?_
      simp only at htot
      generalize run 0 b cs1 = ob at htot
      cases ob with
      | nx cs2 =>
        intro R2 st2 hle2 hs2
        refine Runs.stop ?_
        obtain ⟨σ2, hb2, hm2⟩ := beside_back hm hs2.mem
        exact ⟨σ2, hb2, cs2.σ, cs2.nxt, R2, hle.trans (hle1.trans hle2), hm2, by rw [hnext]; exact htot⟩
      | ex id cs2 =>
        simp only at htot
        subst htot
        refine ⟨_, by simp [exK, popTo]; rfl, fun R2 st2 hle2 hs2 => ?_⟩
        refine Runs.stop ?_
        obtain ⟨σ2, hb2, hm2⟩ := beside_back hm hs2.mem
        exact ⟨σ2, hb2, ⟨s0, cs2.σ, cs2.nxt⟩, R2, hle.trans (hle1.trans hle2), hm2, rfl, rfl⟩
      | rt cs2 =>
        simp only at htot
        subst htot
        intro R2 st2 hle2 hs2
        obtain ⟨σ2, hb2, hm2⟩ := beside_back hm hs2.mem
        exact ⟨σ2, hb2, ⟨s0, cs2.σ, cs2.nxt⟩, R2, hle.trans (hle1.trans hle2), hm2, rfl, rfl⟩
      | bad =>
        simp only at htot
        subst htot
        exact hthen.elim
    | ex id cs1 => simp only at htot; subst htot; exact hthen.elim
    | rt cs1 => simp only at htot; subst htot; exact hthen.elim
    | bad => simp only at htot; subst htot; exact hthen.elim
  · rintro σ' ⟨σc, nx, R', hle, hm, htot⟩
    rw [List.drop_length] at htot
    simp only [rngQ] at htot
    subst htot
    exact hthen R' _ hle ⟨fun i => VRel.mono hle _ _ (hs.slot i), hm⟩
  · rintro id hid pre σ' - ⟨cs', R', hle, hm, h1, h2⟩
    simp only at h2
    subst h2
    obtain ⟨k', h3, h4⟩ := hthen
    refine Runs.exit h3 (h4 R' _ hle ⟨fun i => ?_, hm⟩)
    show VRel R' (getP (.tup []) i cs'.s) _
    rw [h1]
    exact VRel.mono hle _ _ (hs.slot i)
  · rintro pre σ' - ⟨cs', R', hle, hm, h1, h2⟩
    simp only at h2
    subst h2
    refine Runs.ret (hthen R' _ hle ⟨fun i => ?_, hm⟩)
    show VRel R' (getP (.tup []) i cs'.s) _
    rw [h1]
    exact VRel.mono hle _ _ (hs.slot i)
def LOk2 (P : Program) (T : Tb) (fuel : Nat) : Prop := ∀ (n : Nat) (K : Store) (fl : Nat) (R : Nat → Nat → Prop) (c : VCode) (cs : CS) (st : St) (k : List It) (Q : St → Prop),
  okCode2 c = true → SRel K fl R cs st → Then P n K fl R k Q (evL2 T fuel fl c cs) → Runs P n (.code c :: k) st Q
theorem code_ok2 {T : Tb} {fuel : Nat} (ih : LOk2 P T fuel) {g : FuncId} {vf : VFn} (hk : callable P g = true ∧ okFn2 vf = true ∧ ∃ fn, P.funcs[g]? = some fn ∧ cfn P fn = some vf) {args : List V} {σc : Tr (Option Ob)} {nxt fl : Nat} {r : Rs}
    (hlen : args.length ≤ vf.n) (hr : outQ vf.res (evL2 T fuel fl vf.code ⟨Tr.ofL args 0 .e, σc, nxt⟩) = some r) {K : Store} {R : Nat → Nat → Prop} {σ : Store} {args' : List V} (hm : MRel K fl R (stF σc) nxt σ) (hargs : VRelL R args args') :
    Contract P g args' σ fun v σ' => ∃ R', Le R R' ∧ VRel R' r.v v ∧ MRel K fl R' (stF r.σ) r.nxt σ' := by
  obtain ⟨hcl, hok, fn, hf, hcf⟩ := hk
  simp only [okFn2, Bool.and_eq_true] at hok
  refine Contract.of_runs hf hcf hcl (by rw [hargs.length]; exact hlen) ?_
  have hs : SRel K fl R ⟨Tr.ofL args 0 .e, σc, nxt⟩ ⟨argSlots args', σ⟩ := by
    refine ⟨fun i => ?_, hm⟩
    show VRel R (getP (.tup []) i (Tr.ofL args 0 .e)) (args'.getD i (.tup []))
    rw [ofL_get, getP_e]
    by_cases hi : i < args.length
    · rw [if_pos ⟨Nat.zero_le _, by omega⟩, Nat.sub_zero]
      obtain ⟨u, h1, h2⟩ := hargs.get (List.getElem?_eq_getElem hi)
      simp only [List.getD_eq_getElem?_getD, h1, List.getElem?_eq_getElem hi, Option.getD_some]
      exact h2
    · rw [if_neg (by omega)]
      have : args'[i]? = none := List.getElem?_eq_none (by rw [hargs.length]; omega)
      simp only [List.getD_eq_getElem?_getD, this, Option.getD_none]
      simp [VRel, VRelL]
  have hfin : ∀ cs', resQ vf.res cs' = some r → ∀ R' st, Le R R' → SRel K fl R' cs' st → Ret vf.res st fun v σ' => ∃ R', Le R R' ∧ VRel R' r.v v ∧ MRel K fl R' (stF r.σ) r.nxt σ' := by
    intro cs' hq R' st hle hs'
    unfold resQ at hq
    split at hq
    · rename_i v hv
      simp only [Option.some.injEq] at hq
      subst hq
      obtain ⟨v', g1, g2⟩ := resV_rel hs' hok.2 hv
      exact ⟨v', v', st.σ, g1, SubStore.refl _, Wk.refl (SubStore.refl _) _, R', hle, g2, hs'.mem⟩
    · cases hq
  refine ih vf.n K fl R vf.code _ _ [] _ hok.1 hs ?_
  generalize evL2 T fuel fl vf.code ⟨Tr.ofL args 0 .e, σc, nxt⟩ = o at hr
  cases o <;> simp only [outQ, reduceCtorEq] at hr
  · exact fun R' st hle hs' => Runs.nil (hfin _ hr R' st hle hs')
  · exact fun R' st hle hs' => hfin _ hr R' st hle hs'
theorem evZ_ok {T : Tb} {fuel : Nat} (ih : LOk2 P T fuel) {g : FuncId} {vf : VFn} (hk : callable P g = true ∧ okFn2 vf = true ∧ ∃ fn, P.funcs[g]? = some fn ∧ cfn P fn = some vf) {args : List V} {v : V}
    (h : evZ (evL2 T fuel) vf args = some v) (ha : noidL args = true) : PFun P g args v := by
  intro σ
  unfold evZ at h
  rw [bcase] at h
  split at h
  · rename_i hlen
    split at h
    · rename_i r hr
      have hm : MRel σ 0 (fun _ _ => False) (stF .e) 0 σ := ⟨fun _ _ h => h.elim, fun _ _ _ h => h.elim, fun _ _ _ _ _ h => h.elim, fun _ _ _ h => h.elim, SubStore.refl σ, fun _ _ _ _ _ h => h.elim⟩
      refine (code_ok2 ih hk (Nat.le_of_ble_eq_true hlen) hr hm (noidL_refl args ha)).weak ?_
      rintro u σ' ⟨R', _, h1, h2⟩
      refine ⟨v, σ, h2.keep, (fzQ_ok h2.live 40 r.v u v h h1).wk h2.keep ?_, rfl, rfl⟩
      rintro a ⟨c, o, hc, ho⟩
      cases hk : σ a with
      | none => rfl
      | some x => have := h2.kfl a x c o hk hc ho; omega
    · cases h
  · cases h
theorem call_ok2 {T : Tb} (hT : TOk P T) {fuel : Nat} (ih : LOk2 P T fuel) : CallOk P (evF2 (evL2 T fuel) T.fn) := by
  intro g args σc nxt fl r hr K R σ args' hm hargs
  unfold evF2 at hr
  split at hr
  · cases hr
  · rename_i kd hkd
    have hok := hT.fn g kd hkd
    split at hr
    · rename_i vf
      rw [bcase] at hr
      split at hr
      · rename_i hlen
        exact code_ok2 ih hok (Nat.le_of_ble_eq_true hlen) hr hm hargs
      · cases hr
    · rename_i vf
      exact fzCall_ok (fun as1 v h1 h2 _ => evZ_ok ih hok h1 h2) hr hm hargs
    · exact fzCall_ok hok hr hm hargs
theorem evL2_succ (T : Tb) (f fl : Nat) (c : VCode) (cs : CS) : evL2 T (f + 1) fl c cs = match c with
      | .skip => .nx cs
      | .reg draw l => evOps2 draw (evF2 (evL2 T f) T.fn) fl l cs
      | .seq a b => onNx (evL2 T f fl a cs) fun cs' => evL2 T f fl b cs'
      | .cond c a b => onB (c.ev cs.sf) (evL2 T f fl a cs) (evL2 T f fl b cs)
      | .block id a => onEx id (evL2 T f fl a cs)
      | .loop a => onNx (evL2 T f fl a cs) fun cs' => evL2 T f fl (.loop a) cs'
      | .exit id => .ex id cs
      | .ret => .rt cs
      | .rangeF g ps a b => evR (evL2 T f) T.it fl g ps a b cs
      | .regA l deps => evA (evF2 (evL2 T f) T.fn) fl l deps cs
      | .regL l e => onNx (evOps2 true (evF2 (evL2 T f) T.fn) fl l cs) fun cs' => evOps2 false (evF2 (evL2 T f) T.fn) fl e cs'
      | .bad => .bad := rfl
theorem evL2_ok {T : Tb} (hT : TOk P T) : ∀ fuel, LOk2 P T fuel := by
  intro fuel
  induction fuel using Nat.strongRecOn with
  | _ fuel ih =>
    intro n K fl R c cs st k Q hok hs hthen
    cases fuel with
    | zero => exact hthen.elim
    | succ f =>
      have ihf := ih f (by omega)
      have hcall := call_ok2 hT ihf
      rw [evL2_succ] at hthen
      cases c with
      | skip => exact Runs.skip (hthen R st (Le.refl R) hs)
      | reg draw l =>
        simp only [okCode2] at hok
        simp only [evOps2] at hthen
        cases draw
        · simp only at hthen
          rcases evOps2N_nx (call := evF2 (evL2 T f) T.fn) (fl := fl) 1000 l cs with ⟨cs', he⟩ | he
          · rw [he] at hthen
            exact Runs.region (ops_run2 hcall 1000 l R cs st he hok hs hthen)
          · rw [he] at hthen; exact hthen.elim
        · simp only at hthen
          rcases evOps3N_nx (call := evF2 (evL2 T f) T.fn) (fl := fl) 1000 l cs with ⟨cs', he⟩ | he
          · rw [he] at hthen
            exact Runs.dregion (ops_T3 hcall 1000 l R cs st he hok hs hthen)
          · rw [he] at hthen; exact hthen.elim
      | seq a b =>
        simp only [okCode2, Bool.and_eq_true] at hok
        refine Runs.seq (ihf n K fl R a cs st _ Q hok.1 hs ?_)
        simp only [onNx] at hthen
        generalize evL2 T f fl a cs = o at hthen
        cases o with
        | nx cs1 => exact fun R1 st1 hle1 hs1 => ihf n K fl R1 b cs1 st1 k Q hok.2 hs1 (hthen.le hle1)
        | ex id cs1 => exact hthen
        | rt cs1 => exact hthen
        | bad => exact hthen
      | cond c a b =>
        simp only [okCode2, Bool.and_eq_true] at hok
        have hv := ev_rel hs.slot hok.1
        have hthen : Then P n K fl R k Q (onB (c.ev cs.sf) (evL2 T f fl a cs) (evL2 T f fl b cs)) := hthen
        unfold onB at hthen
        split at hthen
        · rename_i t ht
          rw [ht, VRel.bool_iff] at hv
          refine Runs.cond hv (fun e => ?_) (fun e => ?_)
          · subst e; exact ihf n K fl R a cs st k Q hok.2.1 hs hthen
          · subst e; exact ihf n K fl R b cs st k Q hok.2.2 hs hthen
        · exact hthen.elim
      | block id a =>
        simp only [okCode2] at hok
        refine Runs.block (ihf n K fl R a cs st _ Q hok hs ?_)
        simp only [onEx] at hthen
        generalize evL2 T f fl a cs = o at hthen
        cases o with
        | nx cs1 => exact fun R1 st1 hle1 hs1 => Runs.inBlock (hthen R1 st1 hle1 hs1)
        | ex j cs1 =>
          simp only [brec] at hthen
          by_cases hj : j = id
          · subst hj
            rw [if_pos (by rw [Nat.beq_eq])] at hthen
            exact ⟨k, by simp [popTo], hthen⟩
          · rw [if_neg (by rw [Nat.beq_eq]; exact hj)] at hthen
            obtain ⟨k', h1, h2⟩ := hthen
            exact ⟨k', by simp [popTo, hj, h1], h2⟩
        | rt cs1 => exact hthen
        | bad => exact hthen
      | loop a =>
        have hok' := hok
        simp only [okCode2] at hok
        have hthen0 : Then P n K fl R k Q (evL2 T (f + 1) fl (.loop a) cs) := hthen
        generalize ho : evL2 T (f + 1) fl (.loop a) cs = o at hthen0
        refine Runs.loop (fun m st => m ≤ f + 1 ∧ ∃ R1 cs1, Le R R1 ∧ SRel K fl R1 cs1 st ∧ evL2 T m fl (.loop a) cs1 = o) (f + 1) ⟨Nat.le_refl _, R, cs, Le.refl R, hs, ho⟩ ?_
        rintro m st1 ⟨hm, R1, cs1, hle1, hs1, ho1⟩
        cases m with
        | zero =>
          have : o = .bad := ho1.symm
          rw [this] at hthen0; exact hthen0.elim
        | succ m =>
          have ihm := ih m (by omega)
          rw [evL2_succ] at ho1
          refine ihm n K fl R1 a cs1 st1 _ Q hok hs1 ?_
          simp only [onNx] at ho1
          generalize evL2 T m fl a cs1 = o1 at ho1
          cases o1 with
          | nx cs2 => exact fun R2 st2 hle2 hs2 => Runs.stop ⟨m, by omega, by omega, R2, cs2, hle1.trans hle2, hs2, ho1⟩
          | ex id cs2 =>
            have ho1 : Out.ex id cs2 = o := ho1
            rw [← ho1] at hthen0
            obtain ⟨k', h1, h2⟩ := hthen0
            exact ⟨k', by simpa [popTo] using h1, fun R2 st2 hle2 hs2 => h2 R2 st2 (hle1.trans hle2) hs2⟩
          | rt cs2 =>
            have ho1 : Out.rt cs2 = o := ho1
            rw [← ho1] at hthen0
            exact fun R2 st2 hle2 hs2 => hthen0 R2 st2 (hle1.trans hle2) hs2
          | bad =>
            have ho1 : Out.bad = o := ho1
            rw [← ho1] at hthen0; exact hthen0.elim
      | exit id =>
        obtain ⟨k', h1, h2⟩ := hthen
        exact Runs.exit h1 (h2 R st (Le.refl R) hs)
      | ret => exact Runs.ret (hthen R st (Le.refl R) hs)
      | rangeF g ps a b =>
        simp only [okCode2, Bool.and_eq_true] at hok
        have hthen : Then P n K fl R k Q (evR (evL2 T f) T.it fl g ps a b cs) := hthen
        unfold evR at hthen
        rw [bcase] at hthen
        split at hthen
        · rename_i hfl
          have hfl := Nat.eq_of_beq_eq_true hfl
          subst hfl
          split at hthen
          · rename_i d _
            split at hthen
            · rename_i gf caps hd
              split at hthen
              · rename_i h hI
                split at hthen
                · rename_i caps' hcaps
                  split at hthen
                  · rename_i xs hxs
                    unfold rngG at hthen
                    rw [bcase] at hthen
                    split at hthen
                    · rename_i hall
                      have hno := fzLQ_noid (fzQ_noid 40 cs.σ) hcaps
                      have hit := hT.it gf h hI caps' xs hxs hno
                      obtain ⟨σ', g1, g2, g3⟩ := delLQ_rel (idLQ (idsQ 40 cs.σ) caps) cs.σ st.σ hs.mem
                      have hslot := hs.slot d
                      rw [hd] at hslot
                      simp only [VRel] at hslot
                      obtain ⟨caps2, hd2, hcr⟩ := hslot
                      have hfz : FzL st.σ (fun a => σ' a = none) caps2 caps' := fzLQ_okN hs.mem.live _ _ _ hcaps hcr g3
                      have hw : Weak st ⟨putO st.s (some d) (.fn gf caps'), σ'⟩ := ⟨g1, fun i => by
                        show Wk st.σ σ' (st.s i) (if i = d then .fn gf caps' else st.s i)
                        split
                        · rename_i e
                          subst e
                          rw [hd2]
                          exact (Fz.fn gf _ _ hfz).wk g1 (fun _ h => h)
                        · exact Wk.refl g1 _⟩
                      refine Runs.weaken hw ?_
                      refine rng_ok (run := evL2 T f) (fun K R c cs st k Q => ihf n K 0 R c cs st k Q) hit hok.1 hok.2 hall (st := ⟨putO st.s (some d) (.fn gf caps'), σ'⟩) ⟨fun i => ?_, g2⟩ (by simp [putO]) hthen
                      show VRel R (getP (.tup []) i (setP (.tup []) (.fn gf caps') d cs.s)) (if i = d then .fn gf caps' else st.s i)
                      rw [getP_set]
                      split
                      · exact noid_refl _ (by simpa [V.noid] using hno)
                      · exact hs.slot i
                    · exact hthen.elim
                  · exact hthen.elim
                · exact hthen.elim
              · exact hthen.elim
            · exact hthen.elim
          · exact hthen.elim
        · exact hthen.elim
      | regA l deps =>
        simp only [okCode2] at hok
        have hthen : Then P n K fl R k Q (evA (evF2 (evL2 T f) T.fn) fl l deps cs) := hthen
        unfold evA at hthen
        cases hp : planR l deps with
        | none => rw [hp] at hthen; exact hthen.elim
        | some t =>
          rw [hp] at hthen
          have hthen : Then P n K fl R k Q (evT (evF2 (evL2 T f) T.fn) fl l 8 [] t cs) := hthen
          rcases evT_nx (call := evF2 (evL2 T f) T.fn) (fl := fl) (l := l) 8 [] t cs with ⟨cs', hx⟩ | hx
          · rw [hx] at hthen
            exact Runs.regT hT.mix 8 t (planR_ok hp) (evT_ok hcall hok 8 [] t R cs st hx hs hthen)
          · rw [hx] at hthen; exact hthen.elim
      | regL l e =>
        simp only [okCode2, Bool.and_eq_true] at hok
        have hthen : Then P n K fl R k Q (onNx (evOps2 true (evF2 (evL2 T f) T.fn) fl l cs) fun cs' => evOps2 false (evF2 (evL2 T f) T.fn) fl e cs') := hthen
        simp only [evOps2] at hthen
        rcases evOps3N_nx (call := evF2 (evL2 T f) T.fn) (fl := fl) 1000 l cs with ⟨cs', he⟩ | he
        · rw [he] at hthen
          simp only [onNx] at hthen
          rcases evOps2N_nx (call := evF2 (evL2 T f) T.fn) (fl := fl) 1000 e cs' with ⟨cs2, he2⟩ | he2
          · rw [he2] at hthen
            refine Runs.regL (ops_T3 hcall 1000 l R cs st he hok.1 hs fun R' st' hle hs' => ?_)
            exact ops_run2 hcall 1000 e R' cs' st' he2 hok.2 hs' (hthen.le hle)
          · rw [he2] at hthen; exact hthen.elim
        · rw [he] at hthen; exact hthen.elim
      | bad => exact hthen.elim
end Go.Vc
namespace Go.Vc
def tbF (P : Program) (z : FuncId → Bool) (o : FuncId → Option (List V → Option V)) : FuncId → Option Fk := fun f => match o f with
  | some g => some (.orc g)
  | none => match P.funcs[f]? with
    | some fn => (match cfn P fn with
      | some vf => @Bool.casesOn (fun _ => Option Fk) (callable P f && okFn2 vf) none (some (@Bool.casesOn (fun _ => Fk) (z f) (.fz vf) (.code vf)))
      | none => none)
    | none => none
theorem tbF_ok {P : Program} (hm : P.follows .mixedOrders = true) (z : FuncId → Bool) {o : FuncId → Option (List V → Option V)} {it : FuncId → Option (List V → Option (List (List V)))}
    (ho : ∀ f g, o f = some g → ∀ as1 v, g as1 = some v → noidL as1 = true → v.noid = true → PFun P f as1 v) (hi : ∀ g h, it g = some h → ∀ caps xs, h caps = some xs → noidL caps = true → Iter P g caps xs) :
    TOk P ⟨tbF P z o, it⟩ := by
  refine ⟨hm, fun g k h => ?_, hi⟩
  simp only [tbF] at h
  split at h
  · rename_i og hog
    simp only [Option.some.injEq] at h; subst h
    exact ho g og hog
  · split at h
    · rename_i fn hfn
      split at h
      · rename_i vf hvf
        rw [brec] at h
        split at h
        · rename_i hc
          simp only [Bool.and_eq_true] at hc
          simp only [Option.some.injEq] at h; subst h
          have hk : callable P g = true ∧ okFn2 vf = true ∧ ∃ fn, P.funcs[g]? = some fn ∧ cfn P fn = some vf := ⟨hc.1, hc.2, fn, hfn, hvf⟩
          cases z g <;> exact hk
        · cases h
      · cases h
    · cases h
def ev3 (P : Program) (T : Tb) (fuel : Nat) (f : FuncId) (args : List V) : Option V := match P.funcs[f]? with
  | some fn => (match cfn P fn with
    | some vf => @Bool.casesOn (fun _ => Option V) (callable P f && okFn2 vf) none (evZ (evL2 T fuel) vf args)
    | none => none)
  | none => none
def ev3B (P : Program) (T : Tb) (fuel : Nat) (f : FuncId) (args : List V) (v : V) : Bool := match ev3 P T fuel f args with
  | some u => eqVQ 40 u v
  | none => false
theorem PFun.of_ev3 {P : Program} {T : Tb} (hT : TOk P T) (fuel : Nat) {f : FuncId} {args : List V} {v : V} (ha : noidL args = true) (h : ev3B P T fuel f args v = true) : PFun P f args v := by
  unfold ev3B at h
  split at h
  · rename_i u hu
    rw [← eqVQ_eq 40 u v h]
    unfold ev3 at hu
    split at hu
    · rename_i fn hfn
      split at hu
      · rename_i vf hvf
        rw [bcase] at hu
        split at hu
        · rename_i hc
          simp only [Bool.and_eq_true] at hc
          exact evZ_ok (evL2_ok hT fuel) ⟨hc.1, hc.2, fn, hfn, hvf⟩ hu ha
        · cases hu
      · cases hu
    · cases hu
  · cases h
end Go.Vc
namespace Go.Vc
structure YCf where
  cs : CS
  i : Nat
  stop : Bool
  log : List (List V)
inductive YOut where
  | nx (c : YCf)
  | ex (id : Nat) (c : YCf)
  | rt (c : YCf)
def bindL {α β : Type} (f : α → Option (List β)) : List α → Option (List β)
  | [] => some []
  | a :: l => match f a with
    | some x => (match bindL f l with
      | some y => some (x ++ y)
      | none => none)
    | none => none
def nxY (k : YCf → Option (List YOut)) (o : YOut) : Option (List YOut) := match o with
  | .nx c => k c
  | .ex id c => some [.ex id c]
  | .rt c => some [.rt c]
def bindY (o : Option (List YOut)) (k : YCf → Option (List YOut)) : Option (List YOut) := match o with
  | some l => bindL (nxY k) l
  | none => none
def unblk (id : Nat) (o : YOut) : YOut := match o with
  | .nx c => .nx c
  | .ex j c => @Bool.casesOn (fun _ => YOut) (Nat.beq j id) (.ex j c) (.nx c)
  | .rt c => .rt c
def plainY (c : YCf) (o : Out) : Option (List YOut) := match o with
  | .nx cs => some [.nx ⟨cs, c.i, c.stop, c.log⟩]
  | .ex id cs => some [.ex id ⟨cs, c.i, c.stop, c.log⟩]
  | .rt cs => some [.rt ⟨cs, c.i, c.stop, c.log⟩]
  | .bad => none
def nxs : List YCf → List YOut
  | [] => []
  | c :: l => .nx c :: nxs l
def yieldQ (xs : Option (List (List V))) (dst : Option Nat) (args : List V) (c : YCf) : Option (List YCf) := match xs with
  | none => @Bool.casesOn (fun _ => Option (List YCf)) (noidL args) none (some [⟨c.cs.put dst (.bool true), Nat.succ c.i, false, args :: c.log⟩])
  | some l => match l[c.i]? with
    | some x => @Bool.casesOn (fun _ => Option (List YCf)) (noidL args && (eqLQ (eqVQ 40) args x && !c.stop)) none
        (some [⟨c.cs.put dst (.bool true), Nat.succ c.i, false, []⟩, ⟨c.cs.put dst (.bool false), Nat.succ c.i, true, []⟩])
    | none => none
def endY (res : List VR) (dst : Option Nat) (c : YCf) (o : YOut) : Option (List YCf) := match o with
  | .ex _ _ => none
  | .nx c1 => (match resQ res c1.cs with
    | some r => some [⟨CS.put ⟨c.cs.s, r.σ, r.nxt⟩ dst r.v, c1.i, c1.stop, c1.log⟩]
    | none => none)
  | .rt c1 => (match resQ res c1.cs with
    | some r => some [⟨CS.put ⟨c.cs.s, r.σ, r.nxt⟩ dst r.v, c1.i, c1.stop, c1.log⟩]
    | none => none)
def callY (run : VCode → YCf → Option (List YOut)) (vf : VFn) (dst : Option Nat) (args : List V) (c : YCf) : Option (List YCf) :=
  @Bool.casesOn (fun _ => Option (List YCf)) (Nat.ble args.length vf.n) none (match run vf.code ⟨⟨Tr.ofL args 0 .e, c.cs.σ, c.cs.nxt⟩, c.i, c.stop, c.log⟩ with
    | some outs => bindL (endY vf.res dst c) outs
    | none => none)
def plnY (call : CallT) (i : VIns) (c : YCf) : Option (List YCf) := match (compI2 i).f call 0 c.cs with
  | some cs' => some [⟨cs', c.i, c.stop, c.log⟩]
  | none => none
def insY (T : Tb) (call : CallT) (run : VCode → YCf → Option (List YOut)) (xs : Option (List (List V))) (i : VIns) (c : YCf) : Option (List YCf) := match i.op with
  | .call fx args => (match wantV c.cs.sf i.g with
    | some true => (match fx.ev c.cs.sf with
      | .yl j => @Bool.casesOn (fun _ => Option (List YCf)) (Nat.beq j 0) none (yieldQ xs i.dst (args.map (·.ev c.cs.sf)) c)
      | .fn f caps => (match T.fn f with
        | some (.code vf) => callY run vf i.dst (args.map (·.ev c.cs.sf) ++ caps) c
        | _ => plnY call i c)
      | _ => plnY call i c)
    | some false => some [⟨c.cs.put i.dst (.tup []), c.i, c.stop, c.log⟩]
    | none => none)
  | _ => plnY call i c
def opsY (f : VIns → YCf → Option (List YCf)) : List VIns → YCf → Option (List YCf)
  | [], c => some [c]
  | i :: l, c => match f i c with
    | some cs => bindL (opsY f l) cs
    | none => none
def opsO (o : Option (List YCf)) : Option (List YOut) := match o with
  | some l => some (nxs l)
  | none => none
def onY (v : V) (a b : Option (List YOut)) : Option (List YOut) := match v with
  | .bool t => @Bool.casesOn (fun _ => Option (List YOut)) t b a
  | _ => none
def blkY (id : Nat) (o : Option (List YOut)) : Option (List YOut) := match o with
  | some l => some (l.map (unblk id))
  | none => none
def evY (T : Tb) (xs : Option (List (List V))) (fuel : Nat) : VCode → YCf → Option (List YOut) :=
  @Nat.rec (fun _ => VCode → YCf → Option (List YOut)) (fun _ _ => none)
    (fun f ih c y => match c with
      | .skip => some [.nx y]
      | .reg draw l => @Bool.casesOn (fun _ => Option (List YOut)) draw (opsO (opsY (insY T (evF2 (evL2 T f) T.fn) ih xs) l y)) (plainY y (evL2 T (f + 1) 0 (.reg true l) y.cs))
      | .seq a b => bindY (ih a y) (ih b)
      | .cond x a b => onY (x.ev y.cs.sf) (ih a y) (ih b y)
      | .block id a => blkY id (ih a y)
      | .loop a => bindY (ih a y) (ih (.loop a))
      | .exit id => some [.ex id y]
      | .ret => some [.rt y]
      | .rangeF g ps a b => plainY y (evL2 T (f + 1) 0 (.rangeF g ps a b) y.cs)
      | .regA l deps => plainY y (evL2 T (f + 1) 0 (.regA l deps) y.cs)
      | .regL l e => (match evOps2 true (evF2 (evL2 T f) T.fn) 0 l y.cs with
        | .nx cs' => opsO (opsY (insY T (evF2 (evL2 T f) T.fn) ih xs) e ⟨cs', y.i, y.stop, y.log⟩)
        | _ => none)
      | .bad => none) fuel
theorem bindL_mem {α β : Type} {f : α → Option (List β)} : ∀ {l : List α} {r : List β}, bindL f l = some r → ∀ a ∈ l, ∃ x, f a = some x ∧ ∀ b ∈ x, b ∈ r
  | [], _, _, a, ha => by simp at ha
  | a :: l, r, h, a', ha => by
    simp only [bindL] at h
    split at h
    · rename_i x hx
      split at h
      · rename_i y hy
        simp only [Option.some.injEq] at h; subst h
        rcases List.mem_cons.1 ha with rfl | ha
        · exact ⟨x, hx, fun b hb => List.mem_append_left _ hb⟩
        · obtain ⟨z, h1, h2⟩ := bindL_mem hy a' ha
          exact ⟨z, h1, fun b hb => List.mem_append_right _ (h2 b hb)⟩
      · cases h
    · cases h
theorem nxs_mem : ∀ {l : List YCf} {c : YCf}, c ∈ l → YOut.nx c ∈ nxs l
  | a :: l, c, h => by
    rcases List.mem_cons.1 h with rfl | h
    · simp [nxs]
    · simp [nxs, nxs_mem h]
variable {P : Program} {n : Nat}
section
variable {idl : Nat} {J Jx : List (List V) → Store → Prop} {xs : List (List V)}
def YI (J Jx : List (List V) → Store → Prop) (xs : List (List V)) (c : YCf) (σJ : Store) : Prop := (c.stop = false → J (xs.take c.i) σJ) ∧ (c.stop = true → ∃ pre, pre <+: xs ∧ Jx pre σJ)
def YR (idl : Nat) (J Jx : List (List V) → Store → Prop) (xs : List (List V)) (R : Nat → Nat → Prop) (c : YCf) (st : St) : Prop := R 0 idl ∧ ∃ σJ, YI J Jx xs c σJ ∧ SRel σJ 0 R c.cs st
def ThenY (P : Program) (idl : Nat) (J Jx : List (List V) → Store → Prop) (xs : List (List V)) (n : Nat) (R : Nat → Nat → Prop) (k : List It) (Q : St → Prop) : YOut → Prop
  | .nx c => ∀ R' st, Le R R' → YR idl J Jx xs R' c st → Runs P n k st Q
  | .ex id c => ∃ k', popTo id k = some k' ∧ ∀ R' st, Le R R' → YR idl J Jx xs R' c st → Runs P n k' st Q
  | .rt c => ∀ R' st, Le R R' → YR idl J Jx xs R' c st → Q st
theorem ThenY.le {R R' : Nat → Nat → Prop} {k : List It} {Q : St → Prop} {o : YOut} (h : ThenY P idl J Jx xs n R k Q o) (hle : Le R R') : ThenY P idl J Jx xs n R' k Q o := by
  cases o
  case ex => obtain ⟨k', h1, h2⟩ := h; exact ⟨k', h1, fun R'' st h3 h4 => h2 R'' st (hle.trans h3) h4⟩
  all_goals exact fun R'' st h3 h4 => h R'' st (hle.trans h3) h4
def HY (P : Program) (idl : Nat) (J Jx : List (List V) → Store → Prop) (xs : List (List V)) : Prop := ∀ pre x post σJ σ, xs = pre ++ x :: post → J pre σJ → SubStore σJ σ →
      YC P idl x σ fun b σ' => ∃ σJ', Beside σJ σ σJ' σ' ∧ ((b = true ∧ J (pre ++ [x]) σJ') ∨ (b = false ∧ Jx (pre ++ [x]) σJ'))
def LY (P : Program) (idl : Nat) (J Jx : List (List V) → Store → Prop) (xs : List (List V)) (run : VCode → YCf → Option (List YOut)) : Prop := ∀ (n : Nat) (R : Nat → Nat → Prop) (code : VCode) (c : YCf) (st : St) (k : List It) (Q : St → Prop) (outs : List YOut),
  okCode2 code = true → YR idl J Jx xs R c st → run code c = some outs → (∀ o ∈ outs, ThenY P idl J Jx xs n R k Q o) → Runs P n (.code code :: k) st Q
theorem code_okY {run : VCode → YCf → Option (List YOut)} (ih : LY P idl J Jx xs run) {g : FuncId} {vf : VFn} (hk : callable P g = true ∧ okFn2 vf = true ∧ ∃ fn, P.funcs[g]? = some fn ∧ cfn P fn = some vf) {args : List V} {c : YCf} {dst : Option Nat} {outs : List YOut} {rs : List YCf}
    (hlen : args.length ≤ vf.n) (hr : run vf.code ⟨⟨Tr.ofL args 0 .e, c.cs.σ, c.cs.nxt⟩, c.i, c.stop, c.log⟩ = some outs) (hrs : bindL (endY vf.res dst c) outs = some rs) {R : Nat → Nat → Prop} {σJ σ : Store} {args' : List V} (h0 : R 0 idl) (hI : YI J Jx xs c σJ)
    (hm : MRel σJ 0 R (stF c.cs.σ) c.cs.nxt σ) (hargs : VRelL R args args') :
    Contract P g args' σ fun v σ' => ∃ (c1 : YCf) (r : Rs) (R' : Nat → Nat → Prop) (σJ' : Store), (⟨CS.put ⟨c.cs.s, r.σ, r.nxt⟩ dst r.v, c1.i, c1.stop, c1.log⟩ : YCf) ∈ rs ∧ Le R R' ∧ VRel R' r.v v ∧ YI J Jx xs c1 σJ' ∧ MRel σJ' 0 R' (stF r.σ) r.nxt σ' := by
  obtain ⟨hcl, hok, fn, hf, hcf⟩ := hk
  simp only [okFn2, Bool.and_eq_true] at hok
  refine Contract.of_runs hf hcf hcl (by rw [hargs.length]; exact hlen) ?_
  have hs : SRel σJ 0 R ⟨Tr.ofL args 0 .e, c.cs.σ, c.cs.nxt⟩ ⟨argSlots args', σ⟩ := by
    refine ⟨fun i => ?_, hm⟩
    show VRel R (getP (.tup []) i (Tr.ofL args 0 .e)) (args'.getD i (.tup []))
    rw [ofL_get, getP_e]
    by_cases hi : i < args.length
    · rw [if_pos ⟨Nat.zero_le _, by omega⟩, Nat.sub_zero]
      obtain ⟨u, h1, h2⟩ := hargs.get (List.getElem?_eq_getElem hi)
      simp only [List.getD_eq_getElem?_getD, h1, List.getElem?_eq_getElem hi, Option.getD_some]
      exact h2
    · rw [if_neg (by omega)]
      have : args'[i]? = none := List.getElem?_eq_none (by rw [hargs.length]; omega)
      simp only [List.getD_eq_getElem?_getD, this, Option.getD_none]
      simp [VRel, VRelL]
  have hfin : ∀ c1, (∃ x, (match resQ vf.res c1.cs with | some r => some [(⟨CS.put ⟨c.cs.s, r.σ, r.nxt⟩ dst r.v, c1.i, c1.stop, c1.log⟩ : YCf)] | none => none) = some x ∧ ∀ b ∈ x, b ∈ rs) → ∀ R' st, Le R R' → YR idl J Jx xs R' c1 st →
      Ret vf.res st fun v σ' => ∃ (c1 : YCf) (r : Rs) (R' : Nat → Nat → Prop) (σJ' : Store), (⟨CS.put ⟨c.cs.s, r.σ, r.nxt⟩ dst r.v, c1.i, c1.stop, c1.log⟩ : YCf) ∈ rs ∧ Le R R' ∧ VRel R' r.v v ∧ YI J Jx xs c1 σJ' ∧ MRel σJ' 0 R' (stF r.σ) r.nxt σ' := by
    rintro c1 ⟨x, hx, hmem⟩ R' st hle ⟨_, σJ', hI', hs'⟩
    split at hx
    · rename_i r hq
      simp only [Option.some.injEq] at hx; subst hx
      have hq0 := hq
      unfold resQ at hq
      split at hq
      · rename_i v hv
        simp only [Option.some.injEq] at hq
        obtain ⟨v', g1, g2⟩ := resV_rel hs' hok.2 hv
        refine ⟨v', v', st.σ, g1, SubStore.refl _, Wk.refl (SubStore.refl _) _, c1, r, R', σJ', hmem _ (by simp), hle, ?_, hI', ?_⟩
        · rw [← hq]; exact g2
        · rw [← hq]; exact hs'.mem
      · cases hq
    · cases hx
  refine ih vf.n R vf.code ⟨⟨Tr.ofL args 0 .e, c.cs.σ, c.cs.nxt⟩, c.i, c.stop, c.log⟩ _ [] _ outs hok.1 ⟨h0, σJ, hI, hs⟩ hr fun o ho => ?_
  have hb := bindL_mem hrs o ho
  cases o with
  | nx c1 => exact fun R' st hle hs' => Runs.nil (hfin c1 hb R' st hle hs')
  | ex id c1 => obtain ⟨x, hx, _⟩ := hb; simp [endY] at hx
  | rt c1 => exact fun R' st hle hs' => hfin c1 hb R' st hle hs'
theorem YI.put {c : YCf} {cs : CS} {σJ : Store} (h : YI J Jx xs c σJ) : YI J Jx xs ⟨cs, c.i, c.stop, c.log⟩ σJ := h
theorem want_rel {R : Nat → Nat → Prop} {s s' : Nat → V} (h : ∀ i, VRel R (s i) (s' i)) {g : Option (VX × Bool)} (hg : (match g with | some (x, _) => okX x | none => true) = true) {b : Bool} (hw : wantV s g = some b) : wantV s' g = some b := by
  unfold wantV at hw ⊢
  split at hw
  · exact hw
  · rename_i x t
    have hv := ev_rel h (x := x) hg
    split at hw
    · rename_i c hc
      rw [hc, VRel.bool_iff] at hv
      rw [hv]; exact hw
    · rename_i hc
      rw [hc] at hv
      simp only [VRel, VRelL] at hv
      obtain ⟨_, hv, rfl⟩ := hv
      rw [hv]; exact hw
    · rename_i hc
      rw [hc, VRel.int_iff] at hv
      rw [hv]; exact hw
    · cases hw
theorem insY_run (hy : HY P idl J Jx xs) {T : Tb} (hT : TOk P T) {call : CallT} (hc : CallOk P call) {run : VCode → YCf → Option (List YOut)} (ih : LY P idl J Jx xs run) {i : VIns} {l : List VIns} {R : Nat → Nat → Prop} {c : YCf} {st : St} {k : List It} {Q : St → Prop} {cs : List YCf}
    (hok : okIns i = true) (h : YR idl J Jx xs R c st) (hr : insY T call run (some xs) i c = some cs)
    (hk : ∀ c' ∈ cs, ∀ R' st', Le R R' → YR idl J Jx xs R' c' st' → Runs P n (.ops l :: k) st' Q) : Runs P n (.ops (i :: l) :: k) st Q := by
  obtain ⟨h0, σJ, hI, hs⟩ := h
  have hplain : plnY call i c = some cs → Runs P n (.ops (i :: l) :: k) st Q := by
    intro hr
    unfold plnY at hr
    split at hr
    · rename_i cs' hcs
      simp only [Option.some.injEq] at hr; subst hr
      exact ins_run2 hc hok hs hcs fun R' st' hle hs' => hk _ (List.mem_singleton.2 rfl) R' st' hle ⟨hle _ _ h0, σJ, hI, hs'⟩
    · cases hr
  unfold insY at hr
  split at hr
  · rename_i fx args hop
    have hok' := hok
    simp only [okIns, Bool.and_eq_true] at hok'
    have hokx := hok'.1
    rw [hop] at hokx
    simp only [okOp, VOp.xs, List.all_cons, Bool.and_eq_true] at hokx
    have hgok : (match i.g with | some (x, _) => okX x | none => true) = true := by
      have := hok'.2
      revert this
      cases i.g with
      | none => simp
      | some x => simp
    split at hr
    · rename_i hw
      have hw' := want_rel hs.slot hgok hw
      split at hr
      · rename_i j hj
        rw [bcase] at hr
        split at hr
        · rename_i hj0
          have hj0 := Nat.eq_of_beq_eq_true hj0
          subst hj0
          have hfx := ev_rel hs.slot hokx.1.1
          rw [hj] at hfx
          simp only [VRel] at hfx
          obtain ⟨id', hfx, hR⟩ := hfx
          have : id' = idl := hs.mem.fn _ _ _ hR h0
          subst this
          simp only [yieldQ] at hr
          split at hr
          · rename_i x hx
            rw [brec] at hr
            split at hr
            · rename_i hcond
              simp only [Bool.and_eq_true, Bool.not_eq_true'] at hcond
              obtain ⟨hno, heq, hst⟩ := hcond
              have heq := eqLQ_eq (eqVQ_eq 40) heq
              simp only [Option.some.injEq] at hr; subst hr
              have hargs := evs_rel hs.slot hokx.1.2
              have hargs := noidL_eq _ _ hno hargs
              have hlt : c.i < xs.length := (List.getElem?_eq_some_iff.1 hx).1
              have hxs : xs = xs.take c.i ++ x :: xs.drop (c.i + 1) := by
                have h1 : xs[c.i] = x := (List.getElem?_eq_some_iff.1 hx).2
                rw [← h1, ← List.drop_eq_getElem_cons hlt, List.take_append_drop]
              have htk : xs.take c.i ++ [x] = xs.take (c.i + 1) := by
                have h1 : xs[c.i] = x := (List.getElem?_eq_some_iff.1 hx).2
                rw [List.take_add_one, hx]; rfl
              have hyc := hy (xs.take c.i) x _ σJ st.σ hxs (hI.1 hst) hs.mem.keep
              refine Runs.ycall hw' hop hfx (Post := fun b σ' => ∃ σJ', Beside σJ st.σ σJ' σ' ∧ ((b = true ∧ J (xs.take c.i ++ [x]) σJ') ∨ (b = false ∧ Jx (xs.take c.i ++ [x]) σJ'))) ?_ ?_
              · rw [hargs, heq]; exact hyc
              · rintro b σ' ⟨σJ', hb, hbb⟩
                have hm : MRel σJ' 0 R (stF c.cs.σ) c.cs.nxt σ' := by
                  have hnone : ∀ a o c1, R c1 a → stF c.cs.σ c1 = some o → σJ a = none := fun a o c1 hR ho => by
                    cases hj : σJ a with
                    | none => rfl
                    | some x => have := hs.mem.kfl a x c1 o hj hR ho; omega
                  refine ⟨hs.mem.dom, fun c1 a o hR ho => ?_, hs.mem.inj, hs.mem.fn, hb.1, fun a o c1 oc h1 h2 h3 => ?_⟩
                  · obtain ⟨rows', g1, g2⟩ := hs.mem.live c1 a o hR ho
                    exact ⟨rows', (hb.2 a _ (hnone a o c1 hR ho) g1).1, g2⟩
                  · obtain ⟨rows', g1, g2⟩ := hs.mem.live c1 a oc h2 h3
                    have := (hb.2 a _ (hnone a oc c1 h2 h3) g1).2
                    rw [this] at h1; cases h1
                have hS : SRel σJ' 0 R c.cs ⟨st.s, σ'⟩ := ⟨hs.slot, hm⟩
                rcases hbb with ⟨rfl, hJ⟩ | ⟨rfl, hJ⟩
                · refine hk ⟨c.cs.put i.dst (.bool true), Nat.succ c.i, false, []⟩ (by simp) R _ (Le.refl R) ⟨h0, σJ', ⟨fun _ => ?_, fun e => by simp at e⟩, hS.put (by simp [VRel])⟩
                  rw [htk] at hJ; exact hJ
                · exact hk ⟨c.cs.put i.dst (.bool false), Nat.succ c.i, true, []⟩ (by simp) R _ (Le.refl R) ⟨h0, σJ', ⟨fun e => by simp at e, fun _ => ⟨_, ⟨xs.drop (c.i + 1), by rw [List.append_assoc]; exact hxs.symm⟩, hJ⟩⟩, hS.put (by simp [VRel])⟩
            · cases hr
          · cases hr
        · cases hr
      · rename_i f caps hf
        split at hr
        · rename_i vf hvf
          have hkf := hT.fn f _ hvf
          have hfx := ev_rel hs.slot hokx.1.1
          rw [hf] at hfx
          simp only [VRel] at hfx
          obtain ⟨caps', hf', hcaps⟩ := hfx
          unfold callY at hr
          rw [bcase] at hr
          split at hr
          · rename_i hlen
            split at hr
            · rename_i outs houts
              refine Runs.call hw' hop hf' (code_okY ih hkf (Nat.le_of_ble_eq_true hlen) houts hr h0 hI hs.mem ((evs_rel hs.slot hokx.1.2).append hcaps)) ?_
              rintro v σ' ⟨c1, r, R', σJ', hmem, hle, hv, hI', hm'⟩
              have hS : SRel σJ' 0 R' ⟨c.cs.s, r.σ, r.nxt⟩ ⟨st.s, σ'⟩ := ⟨fun j => VRel.mono hle _ _ (hs.slot j), hm'⟩
              exact hk _ hmem R' _ hle ⟨hle _ _ h0, σJ', hI', hS.put hv⟩
            · cases hr
          · cases hr
        · exact hplain hr
      · exact hplain hr
    · rename_i hw
      have hw' := want_rel hs.slot hgok hw
      simp only [Option.some.injEq] at hr; subst hr
      exact Runs.skipIns hw' (hk _ (List.mem_singleton.2 rfl) R _ (Le.refl R) ⟨h0, σJ, hI, hs.put VRel.nilt⟩)
    · cases hr
  · exact hplain hr
theorem opsY_run {f : VIns → YCf → Option (List YCf)} {k : List It} {Q : St → Prop}
    (hins : ∀ (i : VIns) (l : List VIns) (R : Nat → Nat → Prop) (c : YCf) (st : St) (cs : List YCf), okIns i = true → YR idl J Jx xs R c st → f i c = some cs →
      (∀ c' ∈ cs, ∀ R' st', Le R R' → YR idl J Jx xs R' c' st' → Runs P n (.ops l :: k) st' Q) → Runs P n (.ops (i :: l) :: k) st Q) : ∀ (l : List VIns) (R : Nat → Nat → Prop) (c : YCf) (st : St) (outs : List YCf),
      l.all okIns = true → YR idl J Jx xs R c st → opsY f l c = some outs → (∀ c' ∈ outs, ∀ R' st', Le R R' → YR idl J Jx xs R' c' st' → Runs P n k st' Q) → Runs P n (.ops l :: k) st Q
  | [], R, c, st, outs, _, h, hr, hk => by
    simp only [opsY, Option.some.injEq] at hr; subst hr
    exact Runs.ops_nil (hk c (by simp) R st (Le.refl R) h)
  | i :: l, R, c, st, outs, hok, h, hr, hk => by
    simp only [List.all_cons, Bool.and_eq_true] at hok
    simp only [opsY] at hr
    split at hr
    · rename_i cs hcs
      refine hins i l R c st cs hok.1 h hcs fun c' hc' R' st' hle h' => ?_
      obtain ⟨x, h1, h2⟩ := bindL_mem hr c' hc'
      exact opsY_run hins l R' c' st' x hok.2 h' h1 fun c'' hc'' R'' st'' hle' h'' => hk c'' (h2 _ hc'') R'' st'' (hle.trans hle') h''
    · cases hr
theorem evY_succ (T : Tb) (xs : Option (List (List V))) (f : Nat) (c : VCode) (y : YCf) : evY T xs (f + 1) c y = match c with
      | .skip => some [.nx y]
      | .reg draw l => @Bool.casesOn (fun _ => Option (List YOut)) draw (opsO (opsY (insY T (evF2 (evL2 T f) T.fn) (evY T xs f) xs) l y)) (plainY y (evL2 T (f + 1) 0 (.reg true l) y.cs))
      | .seq a b => bindY (evY T xs f a y) (evY T xs f b)
      | .cond x a b => onY (x.ev y.cs.sf) (evY T xs f a y) (evY T xs f b y)
      | .block id a => blkY id (evY T xs f a y)
      | .loop a => bindY (evY T xs f a y) (evY T xs f (.loop a))
      | .exit id => some [.ex id y]
      | .ret => some [.rt y]
      | .rangeF g ps a b => plainY y (evL2 T (f + 1) 0 (.rangeF g ps a b) y.cs)
      | .regA l deps => plainY y (evL2 T (f + 1) 0 (.regA l deps) y.cs)
      | .regL l e => (match evOps2 true (evF2 (evL2 T f) T.fn) 0 l y.cs with
        | .nx cs' => opsO (opsY (insY T (evF2 (evL2 T f) T.fn) (evY T xs f) xs) e ⟨cs', y.i, y.stop, y.log⟩)
        | _ => none)
      | .bad => none := rfl
theorem evY_ok (hy : HY P idl J Jx xs) {T : Tb} (hT : TOk P T) : ∀ fuel, LY P idl J Jx xs (evY T (some xs) fuel) := by
  intro fuel
  induction fuel using Nat.strongRecOn with
  | _ fuel ih =>
    intro n R code c st k Q outs hok h hr hthen
    cases fuel with
    | zero => cases hr
    | succ f =>
      have ihf := ih f (by omega)
      have hcall := call_ok2 hT (evL2_ok hT f)
      have hplain : plainY c (evL2 T (f + 1) 0 code c.cs) = some outs → Runs P n (.code code :: k) st Q := by
        intro hr
        obtain ⟨h0, σJ, hI, hs⟩ := h
        refine evL2_ok hT (f + 1) n σJ 0 R code c.cs st k Q hok hs ?_
        generalize evL2 T (f + 1) 0 code c.cs = o at hr
        cases o with
        | nx cs' =>
          simp only [plainY, Option.some.injEq] at hr; subst hr
          have h1 := hthen _ (List.mem_singleton.2 rfl)
          exact fun R' st' hle hs' => h1 R' st' hle ⟨hle _ _ h0, σJ, hI, hs'⟩
        | ex id cs' =>
          simp only [plainY, Option.some.injEq] at hr; subst hr
          obtain ⟨k', h1, h2⟩ := hthen _ (List.mem_singleton.2 rfl)
          exact ⟨k', h1, fun R' st' hle hs' => h2 R' st' hle ⟨hle _ _ h0, σJ, hI, hs'⟩⟩
        | rt cs' =>
          simp only [plainY, Option.some.injEq] at hr; subst hr
          have h1 := hthen _ (List.mem_singleton.2 rfl)
          exact fun R' st' hle hs' => h1 R' st' hle ⟨hle _ _ h0, σJ, hI, hs'⟩
        | bad => simp [plainY] at hr
      have hops : ∀ (l : List VIns) (R : Nat → Nat → Prop) (c : YCf) (st : St), l.all okIns = true → YR idl J Jx xs R c st → opsO (opsY (insY T (evF2 (evL2 T f) T.fn) (evY T (some xs) f) (some xs)) l c) = some outs →
          (∀ o ∈ outs, ThenY P idl J Jx xs n R k Q o) → Runs P n (.ops l :: k) st Q := by
        intro l R c st hl h hr hthen
        unfold opsO at hr
        split at hr
        · rename_i cs hcs
          simp only [Option.some.injEq] at hr; subst hr
          refine opsY_run (fun i l R c st cs h1 h2 h3 h4 => insY_run hy hT hcall ihf h1 h2 h3 h4) l R c st cs hl h hcs fun c' hc' => ?_
          exact hthen _ (nxs_mem hc')
        · cases hr
      rw [evY_succ] at hr
      cases code with
      | skip =>
        simp only [Option.some.injEq] at hr; subst hr
        have h1 := hthen _ (List.mem_singleton.2 rfl)
        exact Runs.skip (h1 R st (Le.refl R) h)
      | reg draw l =>
        cases draw
        · simp only [okCode2] at hok
          exact Runs.region (hops l R c st hok h hr hthen)
        · exact hplain hr
      | seq a b =>
        simp only [okCode2, Bool.and_eq_true] at hok
        simp only [bindY] at hr
        split at hr
        · rename_i o1 ho1
          refine Runs.seq (ihf n R a c st _ Q o1 hok.1 h ho1 fun o ho => ?_)
          obtain ⟨x, h1, h2⟩ := bindL_mem hr o ho
          cases o with
          | nx c1 => exact fun R1 st1 hle1 hs1 => ihf n R1 b c1 st1 k Q x hok.2 hs1 h1 fun o ho => (hthen o (h2 o ho)).le hle1
          | ex id c1 =>
            simp only [nxY, Option.some.injEq] at h1; subst h1
            exact hthen _ (h2 _ (List.mem_singleton.2 rfl))
          | rt c1 =>
            simp only [nxY, Option.some.injEq] at h1; subst h1
            exact hthen _ (h2 _ (List.mem_singleton.2 rfl))
        · cases hr
      | cond x a b =>
        simp only [okCode2, Bool.and_eq_true] at hok
        obtain ⟨h0, σJ, hI, hs⟩ := h
        have hv := ev_rel hs.slot hok.1
        have hr : onY (x.ev c.cs.sf) (evY T (some xs) f a c) (evY T (some xs) f b c) = some outs := hr
        unfold onY at hr
        split at hr
        · rename_i t ht
          rw [ht, VRel.bool_iff] at hv
          refine Runs.cond hv (fun e => ?_) (fun e => ?_)
          · subst e; exact ihf n R a c st k Q outs hok.2.1 ⟨h0, σJ, hI, hs⟩ hr hthen
          · subst e; exact ihf n R b c st k Q outs hok.2.2 ⟨h0, σJ, hI, hs⟩ hr hthen
        · cases hr
      | block id a =>
        simp only [okCode2] at hok
        simp only [blkY] at hr
        split at hr
        · rename_i o1 ho1
          simp only [Option.some.injEq] at hr; subst hr
          refine Runs.block (ihf n R a c st _ Q o1 hok h ho1 fun o ho => ?_)
          have h1 := hthen _ (List.mem_map.2 ⟨o, ho, rfl⟩)
          cases o with
          | nx c1 => exact fun R1 st1 hle1 hs1 => Runs.inBlock (h1 R1 st1 hle1 hs1)
          | ex j c1 =>
            simp only [unblk, bcase] at h1
            by_cases hj : j = id
            · subst hj
              rw [if_pos (by rw [Nat.beq_eq])] at h1
              exact ⟨k, by simp [popTo], h1⟩
            · rw [if_neg (by rw [Nat.beq_eq]; exact hj)] at h1
              obtain ⟨k', h2, h3⟩ := h1
              exact ⟨k', by simp [popTo, hj, h2], h3⟩
          | rt c1 => exact h1
        · cases hr
      | loop a =>
        have hok' := hok
        simp only [okCode2] at hok
        have hr0 : evY T (some xs) (f + 1) (.loop a) c = some outs := hr
        refine Runs.loop (fun m st => m ≤ f + 1 ∧ ∃ R1 c1 o1, Le R R1 ∧ YR idl J Jx xs R1 c1 st ∧ evY T (some xs) m (.loop a) c1 = some o1 ∧ ∀ o ∈ o1, o ∈ outs) (f + 1) ⟨Nat.le_refl _, R, c, outs, Le.refl R, h, hr0, fun _ h => h⟩ ?_
        rintro m st1 ⟨hm, R1, c1, o1, hle1, hs1, ho1, hsub⟩
        cases m with
        | zero => cases ho1
        | succ m =>
          have ihm := ih m (by omega)
          rw [evY_succ] at ho1
          simp only [bindY] at ho1
          split at ho1
          · rename_i o2 ho2
            refine ihm n R1 a c1 st1 _ Q o2 hok hs1 ho2 fun o ho => ?_
            obtain ⟨x, h1, h2⟩ := bindL_mem ho1 o ho
            cases o with
            | nx c2 => exact fun R2 st2 hle2 hs2 => Runs.stop ⟨m, by omega, by omega, R2, c2, x, hle1.trans hle2, hs2, h1, fun o ho => hsub o (h2 o ho)⟩
            | ex id c2 =>
              simp only [nxY, Option.some.injEq] at h1; subst h1
              obtain ⟨k', h3, h4⟩ := hthen _ (hsub _ (h2 _ (List.mem_singleton.2 rfl)))
              exact ⟨k', by simpa [popTo] using h3, fun R2 st2 hle2 hs2 => h4 R2 st2 (hle1.trans hle2) hs2⟩
            | rt c2 =>
              simp only [nxY, Option.some.injEq] at h1; subst h1
              exact (hthen _ (hsub _ (h2 _ (List.mem_singleton.2 rfl)))).le hle1
          · cases ho1
      | exit id =>
        simp only [Option.some.injEq] at hr; subst hr
        obtain ⟨k', h1, h2⟩ := hthen _ (List.mem_singleton.2 rfl)
        exact Runs.exit h1 (h2 R st (Le.refl R) h)
      | ret =>
        simp only [Option.some.injEq] at hr; subst hr
        have h1 := hthen _ (List.mem_singleton.2 rfl)
        exact Runs.ret (h1 R st (Le.refl R) h)
      | rangeF g ps a b => exact hplain hr
      | regA l deps => exact hplain hr
      | regL l e =>
        simp only [okCode2, Bool.and_eq_true] at hok
        obtain ⟨h0, σJ, hI, hs⟩ := h
        simp only [evOps2] at hr
        rcases evOps3N_nx (call := evF2 (evL2 T f) T.fn) (fl := 0) 1000 l c.cs with ⟨cs', he⟩ | he
        · rw [he] at hr
          refine Runs.regL (ops_T3 hcall 1000 l R c.cs st he hok.1 hs fun R' st' hle hs' => ?_)
          exact hops e R' ⟨cs', c.i, c.stop, c.log⟩ st' hok.2 ⟨hle _ _ h0, σJ, hI, hs'⟩ hr fun o ho => (hthen o ho).le hle
        · rw [he] at hr; cases hr
      | bad => cases hr
end
def vfOf (P : Program) (f : FuncId) : Option VFn := match P.funcs[f]? with
  | some fn => (match cfn P fn with
    | some vf => @Bool.casesOn (fun _ => Option VFn) (callable P f && okFn2 vf) none (some vf)
    | none => none)
  | none => none
theorem vfOf_ok {f : FuncId} {vf : VFn} (h : vfOf P f = some vf) : callable P f = true ∧ okFn2 vf = true ∧ ∃ fn, P.funcs[f]? = some fn ∧ cfn P fn = some vf := by
  unfold vfOf at h
  split at h
  · rename_i fn hfn
    split at h
    · rename_i vf' hvf
      rw [bcase] at h
      split at h
      · rename_i hc
        simp only [Bool.and_eq_true] at hc
        simp only [Option.some.injEq] at h; subst h
        exact ⟨hc.1, hc.2, fn, hfn, hvf⟩
      · cases h
    · cases h
  · cases h
def recY : List YOut → Option (List (List V))
  | [.nx c] => some c.log.reverse
  | [.rt c] => some c.log.reverse
  | _ => none
def finY (n : Nat) (c : YCf) : Bool := @Bool.casesOn (fun _ => Bool) c.stop (Nat.beq c.i n) true
def c0Y (caps : List V) : YCf := ⟨⟨Tr.ofL (.yl 0 :: caps) 0 .e, .e, 1⟩, 0, false, []⟩
def itY (T : Tb) (fuel : Nat) (vf : VFn) (caps : List V) : Option (List (List V)) := @Bool.casesOn (fun _ => Option (List (List V))) (Nat.ble (Nat.succ caps.length) vf.n) none
  (match evY T none fuel vf.code (c0Y caps) with
    | some o1 => (match recY o1 with
      | some xs => (match evY T (some xs) fuel vf.code (c0Y caps) with
        | some o2 => (match bindL (endY vf.res none (c0Y caps)) o2 with
          | some rs => @Bool.casesOn (fun _ => Option (List (List V))) (rs.all (finY xs.length)) none (some xs)
          | none => none)
        | none => none)
      | none => none)
    | none => none)
theorem itY_ok {T : Tb} (hT : TOk P T) {fuel : Nat} {g : FuncId} {vf : VFn} (hk : callable P g = true ∧ okFn2 vf = true ∧ ∃ fn, P.funcs[g]? = some fn ∧ cfn P fn = some vf) {caps : List V} {xs : List (List V)} (h : itY T fuel vf caps = some xs) (hn : noidL caps = true) : Iter P g caps xs := by
  unfold itY at h
  rw [bcase] at h
  split at h
  · rename_i hlen
    split at h
    · split at h
      · split at h
        · rename_i o2 ho2
          split at h
          · rename_i rs hrs
            rw [bcase] at h
            split at h
            · rename_i hfin
              simp only [Option.some.injEq] at h; subst h
              refine ⟨hk.1, fun idl J Jx σ0 hy hJ => ?_⟩
              have hm : MRel σ0 0 (fun a b => a = 0 ∧ b = idl) (stF .e) 1 σ0 := ⟨fun _ _ h => by omega, fun c a o _ h => by simp [stF, getP_e] at h, fun c c' a o o' _ _ h => by simp [stF, getP_e] at h, fun c a a' h1 h2 => h1.2.trans h2.2.symm, SubStore.refl σ0, fun a o c oc _ _ h => by simp [stF, getP_e] at h⟩
              refine ((code_okY (c := c0Y caps) (args := .yl 0 :: caps) (args' := .yl idl :: caps) (σJ := σ0) (evY_ok hy hT fuel) hk (Nat.le_of_ble_eq_true hlen) ho2 hrs ⟨rfl, rfl⟩ ⟨fun _ => by simpa [c0Y] using hJ, fun e => by simp [c0Y] at e⟩ hm ?_).drop ?_).2
              · exact VRelL.cons_iff.2 ⟨_, _, rfl, by simp only [VRel]; exact ⟨idl, rfl, trivial, rfl⟩, noidL_refl caps hn⟩
              · rintro r σ' ⟨c1, r', R', σJ', hmem, -, -, hI, hm'⟩
                refine ⟨σJ', hm'.keep, ?_⟩
                have hf := List.all_eq_true.1 hfin _ hmem
                simp only [finY, bcase] at hf
                cases hst : c1.stop with
                | true => exact .inr (hI.2 hst)
                | false =>
                  simp only [hst, Bool.false_eq_true, if_false, Nat.beq_eq] at hf
                  have := hI.1 hst
                  rw [hf, List.take_length] at this
                  exact .inl this
            · cases h
          · cases h
        · cases h
      · cases h
    · cases h
  · cases h
def upT (P : Program) (fuel : Nat) (T : Tb) : Tb := ⟨T.fn, fun g => match vfOf P g with
  | some vf => some (itY T fuel vf)
  | none => none⟩
theorem upT_ok {T : Tb} (hT : TOk P T) (fuel : Nat) : TOk P (upT P fuel T) := by
  refine ⟨hT.mix, hT.fn, fun g h hg caps xs hx hn => ?_⟩
  simp only [upT] at hg
  split at hg
  · rename_i vf hvf
    simp only [Option.some.injEq] at hg; subst hg
    exact itY_ok hT (vfOf_ok hvf) hx hn
  · cases hg
end Go.Vc
namespace Go.Vc
open Go.Proofs
def st0 : V := .agg [vI 0, vI 0, .bool false, .nils]
set_option maxRecDepth 1000000
end Go.Vc
