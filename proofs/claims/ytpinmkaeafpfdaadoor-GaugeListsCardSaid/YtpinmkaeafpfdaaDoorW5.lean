/- Part 5 of the library of this proof. -/
import Derived.Test.YtpinmkaeafpfdaaDoorW4
import Derived.Test.YtpinmkaeafpfdaaDoorRows
import Derived.Stop.LaidErr
import Derived.RowKitTokens
import Derived.KernelRfl
set_option linter.all false
namespace Go.Vc
open Go.Proofs
/-- what digits tell -/
def digs : List UInt8 → Nat → Option Nat
  | [], n => some n
  | b :: l, n => if 48 ≤ b.toNat ∧ b.toNat ≤ 57 then digs l (10 * n + (b.toNat - 48)) else none
def numT (below : Bool) (t : List UInt8) : Int × Bool :=
  if t = [] ∨ t.length > 13 ∨ (t.head? = some 48 ∧ (t.length > 1 ∨ below = true)) then (0, false)
  else match digs t 0 with
    | none => (0, false)
    | some n => ((if below then -(n : Int) else n), decide (clampI (if below then -(n : Int) else n) = (if below then -(n : Int) else n)))
def numR (w : List UInt8) : Int × Bool := if w.head? = some 45 then numT true w.tail else numT false w
theorem digs_snoc (d : UInt8) : ∀ (l : List UInt8) (n : Nat), digs (l ++ [d]) n = (digs l n).bind fun m => if 48 ≤ d.toNat ∧ d.toNat ≤ 57 then some (10 * m + (d.toNat - 48)) else none
  | [], n => by simp [digs]
  | b :: l, n => by
    simp only [List.cons_append, digs]
    split
    · exact digs_snoc d l _
    · rfl
theorem dec_pos {u : Nat} (h : 0 < u) : ∃ b r, Lib.decDigits u = b :: r ∧ b ≠ 48 := by
  induction u using Nat.strongRecOn with
  | _ u ih =>
    by_cases h9 : u < 10
    · rw [Lib.decDigits_one h9]
      refine ⟨_, [], rfl, fun e => ?_⟩
      have := congrArg UInt8.toNat e
      rw [u8_of (by omega)] at this
      simp at this; omega
    · obtain ⟨b, r, h1, h2⟩ := ih (u / 10) (by omega) (by omega)
      rw [dec_step u h9, h1]
      exact ⟨b, _, rfl, h2⟩
theorem digs_dec : ∀ (u : Nat), digs (Lib.decDigits u) 0 = some u := by
  intro u
  induction u using Nat.strongRecOn with
  | _ u ih =>
    by_cases h : u < 10
    · rw [Lib.decDigits_one h]
      simp only [digs, u8_of (show 48 + u < 256 by omega)]
      rw [if_pos (by omega)]; congr 1; omega
    · rw [dec_step u h, digs_snoc, ih (u / 10) (by omega)]
      simp only [Option.bind_some, u8_of (show 48 + u % 10 < 256 by omega)]
      rw [if_pos (by omega)]; congr 1; omega
theorem u8_back (d : UInt8) {k : Nat} (h : k = d.toNat) : UInt8.ofNat k = d := by subst h; simp
/-- digits with no needless nought are the number's -/
theorem digs_back : ∀ (k : Nat) (t : List UInt8) (n : Nat), t.length = k → t ≠ [] → (t.head? = some 48 → t.length = 1) → digs t 0 = some n → t = Lib.decDigits n := by
  intro k
  induction k with
  | zero => intro t n hk hne; exact absurd (List.eq_nil_of_length_eq_zero hk) hne
  | succ k ih =>
    intro t n hk hne h0 hd
    obtain ⟨t', d, rfl⟩ : ∃ t' d, t = t' ++ [d] := ⟨t.dropLast, t.getLast hne, (List.dropLast_concat_getLast hne).symm⟩
    rw [digs_snoc] at hd
    cases hm : digs t' 0 with
    | none => rw [hm] at hd; cases hd
    | some m =>
      rw [hm] at hd
      simp only [Option.bind_some] at hd
      split at hd
      · rename_i hdig
        simp only [Option.some.injEq] at hd
        subst hd
        by_cases ht : t' = []
        · subst ht
          simp only [digs, Option.some.injEq] at hm
          subst hm
          rw [Lib.decDigits_one (by omega)]
          simp only [List.nil_append, List.cons.injEq, and_true]
          exact (u8_back d (by omega)).symm
        · have hl : t'.length = k := by simpa using hk
          have hh : t'.head? = some 48 → t'.length = 1 := fun e => by
            have : (t' ++ [d]).head? = some 48 := by
              cases t' with
              | nil => exact absurd rfl ht
              | cons b r => simpa using e
            have hlen := h0 this
            rw [List.length_append, List.length_cons, List.length_nil] at hlen
            have := List.length_pos_iff.2 ht
            omega
          have e := ih t' m hl ht hh hm
          have hm0 : 0 < m := by
            rcases Nat.eq_zero_or_pos m with h | h
            · exfalso
              subst h
              have e2 : Lib.decDigits 0 = [48] := by rw [Lib.decDigits_one (by omega)]; rfl
              rw [e2] at e
              have := h0 (by rw [e]; rfl)
              rw [e] at this; simp at this
            · exact h
          rw [dec_step _ (by omega), show (10 * m + (d.toNat - 48)) / 10 = m by omega, ← e]
          congr 2
          exact (u8_back d (by omega)).symm
      · cases hd
theorem digs_dec_nil {t : List UInt8} {n : Nat} (h : digs t 0 = some n) (h0 : t.head? = some 48 → t.length = 1) (hne : t ≠ []) : t = Lib.decDigits n := digs_back _ t n rfl hne h0 h
theorem clamp_self {n : Int} : clampI n = n ↔ -1099511627776 ≤ n ∧ n ≤ 1099511627776 := by unfold clampI; omega
theorem dec_lim : ∀ (u : Nat), u ≤ 1099511627776 → (Lib.decDigits u).length ≤ 13 := by
  have step : ∀ (k u : Nat), u < 10 ^ (k + 1) → (Lib.decDigits u).length ≤ k + 1 := by
    intro k
    induction k with
    | zero => intro u h; rw [Lib.decDigits_one (by simpa using h)]; simp
    | succ k ih =>
      intro u h
      by_cases h9 : u < 10
      · rw [Lib.decDigits_one h9]; simp
      · rw [dec_step u h9]
        have := ih (u / 10) (by rw [Nat.pow_succ] at h; omega)
        simp; omega
  intro u hu
  exact step 12 u (by omega)
/-- a word is a number to the code just if it is one to the answer -/
theorem num_law (w : List UInt8) : ((numR w).2 = true ↔ (okW w = true ∧ badN (numW w) = false)) ∧ ((numR w).2 = true → (numR w).1 = numW w) := by
  have key : ∀ m : Int, -1099511627776 ≤ m → m ≤ 1099511627776 → w = Lib.itoa m → okW w = true ∧ badN (numW w) = false ∧ numW w = m := by
    rintro m h1 h2 rfl
    obtain ⟨a1, a2⟩ := ok_itoa (n := m) ⟨h1, h2⟩
    refine ⟨a2, ?_, a1⟩
    rw [a1]; unfold badN
    exact decide_eq_false (by rw [ne_eq, Classical.not_not]; exact clamp_self.2 ⟨h1, h2⟩)
  have fwd : (numR w).2 = true → ∃ m : Int, -1099511627776 ≤ m ∧ m ≤ 1099511627776 ∧ w = Lib.itoa m ∧ (numR w).1 = m := by
    intro h
    unfold numR at h ⊢
    by_cases hh : w.head? = some 45
    · rw [if_pos hh] at h ⊢
      unfold numT at h ⊢
      split at h
      · cases h
      · rename_i hc
        rw [if_neg hc]
        simp only [not_or, not_and, Bool.true_eq_false, not_true_eq_false, and_true, Nat.not_lt] at hc
        obtain ⟨c1, c2, c3⟩ := hc
        cases hd : digs w.tail 0 with
        | none => rw [hd] at h; cases h
        | some n =>
          rw [hd] at h
          simp only [if_true] at h ⊢
          have hcl := clamp_self.1 (of_decide_eq_true h)
          have ht := digs_dec_nil hd (fun e => by have := c3 e; simp at this) c1
          have hn0 : 0 < n := by
            rcases Nat.eq_zero_or_pos n with h0 | h0
            · exfalso
              subst h0
              have e2 : Lib.decDigits 0 = [48] := by rw [Lib.decDigits_one (by omega)]; rfl
              rw [e2] at ht
              have := c3 (by rw [ht]; rfl)
              simp at this
            · exact h0
          refine ⟨-(n : Int), hcl.1, hcl.2, ?_, rfl⟩
          have e : Lib.itoa (-(n : Int)) = 45 :: Lib.decDigits n := by unfold Lib.itoa; rw [if_pos (by omega)]; simp
          rw [e, ← ht]
          cases w with
          | nil => simp at hh
          | cons b r => simp at hh; subst hh; rfl
    · rw [if_neg hh] at h ⊢
      unfold numT at h ⊢
      split at h
      · cases h
      · rename_i hc
        rw [if_neg hc]
        simp only [not_or, not_and, Bool.false_eq_true, Nat.not_lt] at hc
        obtain ⟨c1, c2, c3⟩ := hc
        cases hd : digs w 0 with
        | none => rw [hd] at h; cases h
        | some n =>
          rw [hd] at h
          simp only [Bool.false_eq_true, if_false] at h ⊢
          have hcl := clamp_self.1 (of_decide_eq_true h)
          have ht := digs_dec_nil hd (fun e => by have := (c3 e).1; have := List.length_pos_iff.2 c1; omega) c1
          refine ⟨(n : Int), hcl.1, hcl.2, ?_, rfl⟩
          have e : Lib.itoa (n : Int) = Lib.decDigits n := by unfold Lib.itoa; rw [if_neg (by omega)]; simp
          rw [e, ← ht]
  refine ⟨⟨fun h => ?_, fun ⟨h1, h2⟩ => ?_⟩, fun h => ?_⟩
  · obtain ⟨m, h1, h2, h3, _⟩ := fwd h
    obtain ⟨a, b, _⟩ := key m h1 h2 h3
    exact ⟨a, b⟩
  · have hr := bad_range h2
    have hw := ok_word h1
    generalize numW w = k at *
    subst hw
    by_cases hk : k < 0
    · have e : Lib.itoa k = 45 :: Lib.decDigits k.natAbs := by unfold Lib.itoa; rw [if_pos hk]
      obtain ⟨b, r, q1, q2⟩ := dec_pos (u := k.natAbs) (by omega)
      have hlim := dec_lim k.natAbs (by omega)
      unfold numR
      rw [e]
      simp only [List.head?_cons, if_true, List.tail_cons]
      unfold numT
      rw [if_neg, digs_dec]
      · simp only [if_true]
        exact decide_eq_true (clamp_self.2 (by omega))
      · simp only [not_or, not_and, Nat.not_lt]
        refine ⟨dec_ne _, hlim, fun e => ?_⟩
        rw [q1] at e; simp at e; exact absurd e q2
    · have e : Lib.itoa k = Lib.decDigits k.toNat := by unfold Lib.itoa; rw [if_neg hk]
      have hlim := dec_lim k.toNat (by omega)
      have h45 : (Lib.decDigits k.toNat).head? ≠ some 45 := fun e => by
        cases hd : Lib.decDigits k.toNat with
        | nil => exact dec_ne _ hd
        | cons b r =>
          rw [hd] at e; simp at e
          have := dec_mem k.toNat b (by rw [hd]; simp)
          subst e; simp at this
      unfold numR
      rw [e, if_neg h45]
      unfold numT
      rw [if_neg, digs_dec]
      · simp only [Bool.false_eq_true, if_false]
        exact decide_eq_true (clamp_self.2 (by omega))
      · simp only [not_or, not_and, Nat.not_lt]
        refine ⟨dec_ne _, hlim, fun e => ?_⟩
        have hk0 : k.toNat = 0 := by
          rcases Nat.eq_zero_or_pos k.toNat with h | h
          · exact h
          · obtain ⟨b, r, q1, q2⟩ := dec_pos h
            rw [q1] at e; simp at e; exact absurd e q2
        rw [hk0, Lib.decDigits_one (by omega)]; simp
  · obtain ⟨m, h1, h2, h3, h4⟩ := fwd h
    rw [h4, (key m h1 h2 h3).2.2]
end Go.Vc
namespace Go.Vc
open Go.Proofs
theorem numT_bound {T : List UInt8} (h : T.length ≤ 13) : ∀ (i : Nat) n, i ≤ T.length → digs (T.take i) 0 = some n → n < 10 ^ i := by
  intro i
  induction i with
  | zero => intro n _ h; simp [digs] at h; omega
  | succ i ih =>
    intro n hi hd
    have htk : T.take (i + 1) = T.take i ++ [T[i]] := by rw [List.take_add_one, List.getElem?_eq_getElem (by omega)]; rfl
    rw [htk, digs_snoc] at hd
    cases hm : digs (T.take i) 0 with
    | none => rw [hm] at hd; cases hd
    | some m =>
      have := ih m (by omega) hm
      rw [hm] at hd
      simp only [Option.bind_some] at hd
      split at hd
      · simp only [Option.some.injEq] at hd
        rw [Nat.pow_succ]; omega
      · cases hd
theorem digs_stop {T : List UInt8} {i : Nat} (h : digs (T.take i) 0 = none) : digs T 0 = none := by
  have : ∀ (r : List UInt8) (a : List UInt8) (n : Nat), digs a n = none → digs (a ++ r) n = none := by
    intro r a
    induction a with
    | nil => intro n h; simp [digs] at h
    | cons b a ih =>
      intro n h
      simp only [List.cons_append, digs] at h ⊢
      split
      · rename_i h1; rw [if_pos h1] at h; exact ih _ h
      · rfl
  rw [← List.take_append_drop i T]
  exact this _ _ 0 h
set_option maxRecDepth 100000 in
theorem number_c (w : List UInt8) (hw : w.length ≤ 1000000000) : PFun Tryd.prog 27 [.str w] (.tup [vI (numR w).1, .bool (numR w).2]) := fun σ => by
  refine Contract.of_runs Tryd.func27 e27 k27 (by simp [c27]) ?_
  unfold c27
  have tt : (true == true) = true := rfl
  have ff : (false == false) = true := rfl
  have tf : (true == false) = false := rfl
  have ft : (false == true) = false := rfl
  refine Runs.seq ?_
  refine Runs.cut (fun st => st.σ = σ ∧ st.s 0 = .str w) ?_ ?_
  · refine Runs.mix 7 ?_
    (refine Runs.of_step Orc.nothing 300 ?_; simp -implicitDefEqProofs only [BB, Int.reduceEq, Int.reduceNe, Int.reduceLT, Int.reduceLE, Int.reduceGT, Int.reduceGE, Nat.reduceEqDiff, Nat.reduceAdd, Nat.reduceMul, Nat.reduceLeDiff, Nat.reduceSub, Nat.reduceLT, Nat.reduceBEq, ↓reduceIte, reduceCtorEq, ← decide_not, okind, vpre, vpure, intBin, intPre, strBin, strPre, popTo, argSlots, fldV, fldAV, subCells, idxVV, idxAAV, idxSV, sliceV, sliceSV, boundV, szIs, storeOp, storeS, setRowV, eff, extV, buildV, splice, eqSV, fitsL, eqCells, eqCell, minmaxV, capV, binBV, nilCheckV, bytesV, V.cells, V.stays, Orc.nothing])
  rintro ⟨s0, σ0⟩ ⟨rfl, h0⟩
  simp only at h0
  refine Runs.seq ?_
  refine Runs.cut (fun st => st.σ = σ0 ∧ st.s 0 = .str w ∧ st.s 4 = .bool (decide (w.head? = some 45))) ?_ ?_
  · refine Runs.mix 7 ?_
    cases w with
    | nil =>
      have z0 : (((0 : Nat) : Int) > 0) = False := by simp
      (refine Runs.of_step Orc.nothing 300 ?_; simp -implicitDefEqProofs only [BB, Int.reduceEq, Int.reduceNe, Int.reduceLT, Int.reduceLE, Int.reduceGT, Int.reduceGE, Nat.reduceEqDiff, Nat.reduceAdd, Nat.reduceMul, Nat.reduceLeDiff, Nat.reduceSub, Nat.reduceLT, Nat.reduceBEq, ↓reduceIte, reduceCtorEq, ← decide_not, okind, vpre, vpure, intBin, intPre, strBin, strPre, popTo, argSlots, fldV, fldAV, subCells, idxVV, idxAAV, idxSV, sliceV, sliceSV, boundV, szIs, storeOp, storeS, setRowV, eff, extV, buildV, splice, eqSV, fitsL, eqCells, eqCell, minmaxV, capV, binBV, nilCheckV, bytesV, V.cells, V.stays, Orc.nothing, h0, lenV_str, z0, tt, ff, tf, ft])
      simp
    | cons b r =>
      have z0 : (((r.length + 1 : Nat) : Int) > 0) = True := eq_true (by omega)
      have hx0 : idxSV (.str (b :: r)) (.int .i64 0) = some (.int .u8 b.toNat) := rfl
      by_cases hb : b = 45
      · subst hb
        have z1 : (((45 : UInt8).toNat : Int) = 45) = True := by simp
        (refine Runs.of_step Orc.nothing 300 ?_; simp -implicitDefEqProofs only [BB, Int.reduceEq, Int.reduceNe, Int.reduceLT, Int.reduceLE, Int.reduceGT, Int.reduceGE, Nat.reduceEqDiff, Nat.reduceAdd, Nat.reduceMul, Nat.reduceLeDiff, Nat.reduceSub, Nat.reduceLT, Nat.reduceBEq, ↓reduceIte, reduceCtorEq, ← decide_not, okind, vpre, vpure, intBin, intPre, strBin, strPre, popTo, argSlots, fldV, fldAV, subCells, idxVV, idxAAV, sliceV, sliceSV, boundV, szIs, storeOp, storeS, setRowV, eff, extV, buildV, splice, eqSV, fitsL, eqCells, eqCell, minmaxV, capV, binBV, nilCheckV, bytesV, V.cells, V.stays, Orc.nothing, h0, lenV_str, z0, hx0, z1, tt, ff, tf, ft])
        simp
      · have z1 : ((b.toNat : Int) = 45) = False := by
          simp only [eq_iff_iff, iff_false]; intro e; exact hb (UInt8.toNat_inj.1 (by have : (45 : UInt8).toNat = 45 := rfl; omega))
        (refine Runs.of_step Orc.nothing 300 ?_; simp -implicitDefEqProofs only [BB, Int.reduceEq, Int.reduceNe, Int.reduceLT, Int.reduceLE, Int.reduceGT, Int.reduceGE, Nat.reduceEqDiff, Nat.reduceAdd, Nat.reduceMul, Nat.reduceLeDiff, Nat.reduceSub, Nat.reduceLT, Nat.reduceBEq, ↓reduceIte, reduceCtorEq, ← decide_not, okind, vpre, vpure, intBin, intPre, strBin, strPre, popTo, argSlots, fldV, fldAV, subCells, idxVV, idxAAV, sliceV, sliceSV, boundV, szIs, storeOp, storeS, setRowV, eff, extV, buildV, splice, eqSV, fitsL, eqCells, eqCell, minmaxV, capV, binBV, nilCheckV, bytesV, V.cells, V.stays, Orc.nothing, h0, lenV_str, z0, hx0, z1, tt, ff, tf, ft])
        simp [hb]
  rintro ⟨s1, σ1⟩ ⟨rfl, h0, h4⟩
  simp only at h0 h4
  have hR : numR w = numT (decide (w.head? = some 45)) (if decide (w.head? = some 45) then w.tail else w) := by
    unfold numR
    by_cases h : w.head? = some 45 <;> simp [h]
  rw [hR]
  refine Runs.seq ?_
  refine Runs.cut (fun st => st.σ = σ1 ∧ st.s 0 = .str (if decide (w.head? = some 45) then w.tail else w) ∧ st.s 4 = .bool (decide (w.head? = some 45))) ?_ ?_
  · refine Runs.mix 7 ?_
    by_cases h : w.head? = some 45
    · have hd : decide (w.head? = some 45) = true := decide_eq_true h
      rw [hd] at h4 ⊢
      have hsl : sliceSV (.str w) (some (.int .i64 1)) none = some (.str w.tail) := by
        have := slice_from (s := w) (k := 1) (by cases w with | nil => simp at h | cons b r => simp)
        rw [List.drop_one] at this; exact this
      (refine Runs.of_step Orc.nothing 300 ?_; simp -implicitDefEqProofs only [BB, Int.reduceEq, Int.reduceNe, Int.reduceLT, Int.reduceLE, Int.reduceGT, Int.reduceGE, Nat.reduceEqDiff, Nat.reduceAdd, Nat.reduceMul, Nat.reduceLeDiff, Nat.reduceSub, Nat.reduceLT, Nat.reduceBEq, ↓reduceIte, reduceCtorEq, ← decide_not, okind, vpre, vpure, intBin, intPre, strBin, strPre, popTo, argSlots, fldV, fldAV, subCells, idxVV, idxAAV, idxSV, sliceV, boundV, szIs, storeOp, storeS, setRowV, eff, extV, buildV, splice, eqSV, fitsL, eqCells, eqCell, minmaxV, capV, binBV, nilCheckV, bytesV, V.cells, V.stays, Orc.nothing, h0, h4, hsl, tt, ff, tf, ft])
      all_goals simp [h4]
    · have hd : decide (w.head? = some 45) = false := decide_eq_false h
      rw [hd] at h4 ⊢
      (refine Runs.of_step Orc.nothing 300 ?_; simp -implicitDefEqProofs only [BB, Int.reduceEq, Int.reduceNe, Int.reduceLT, Int.reduceLE, Int.reduceGT, Int.reduceGE, Nat.reduceEqDiff, Nat.reduceAdd, Nat.reduceMul, Nat.reduceLeDiff, Nat.reduceSub, Nat.reduceLT, Nat.reduceBEq, ↓reduceIte, reduceCtorEq, ← decide_not, okind, vpre, vpure, intBin, intPre, strBin, strPre, popTo, argSlots, fldV, fldAV, subCells, idxVV, idxAAV, idxSV, sliceV, sliceSV, boundV, szIs, storeOp, storeS, setRowV, eff, extV, buildV, splice, eqSV, fitsL, eqCells, eqCell, minmaxV, capV, binBV, nilCheckV, bytesV, V.cells, V.stays, Orc.nothing, h0, h4, tt, ff, tf, ft])
      all_goals simp [h0, h4]
  rintro ⟨s2, σ2⟩ ⟨rfl, h0, h4⟩
  simp only at h0 h4
  have hTl : (if decide (w.head? = some 45) then w.tail else w).length ≤ 1000000000 := by
    split
    · rw [List.length_tail]; omega
    · exact hw
  generalize (if decide (w.head? = some 45) then w.tail else w) = T at *
  generalize decide (w.head? = some 45) = B at *
  clear hR
  refine Runs.seq ?_
  by_cases hnil : T = []
  · have z1 : (T = []) = True := by simp [hnil]
    have hR : numT B T = (0, false) := by unfold numT; rw [if_pos (.inl hnil)]
    refine Runs.mix 7 ?_
    (refine Runs.of_step Orc.nothing 300 ?_; simp -implicitDefEqProofs only [BB, Int.reduceEq, Int.reduceNe, Int.reduceLT, Int.reduceLE, Int.reduceGT, Int.reduceGE, Nat.reduceEqDiff, Nat.reduceAdd, Nat.reduceMul, Nat.reduceLeDiff, Nat.reduceSub, Nat.reduceLT, Nat.reduceBEq, ↓reduceIte, reduceCtorEq, ← decide_not, okind, vpre, vpure, intBin, intPre, strBin, strPre, popTo, argSlots, fldV, fldAV, subCells, idxVV, idxAAV, idxSV, sliceV, sliceSV, boundV, szIs, storeOp, storeS, setRowV, eff, extV, buildV, splice, eqSV, fitsL, eqCells, eqCell, minmaxV, capV, binBV, nilCheckV, bytesV, V.cells, V.stays, Orc.nothing, h0, h4, z1, tt, ff, tf, ft])
    rw [hR]
    exact RetV.same rfl
  have z1 : (T = []) = False := by simp [hnil]
  by_cases h13 : T.length > 13
  · have z2 : ((T.length : Int) > 13) = True := by simp; omega
    have hR : numT B T = (0, false) := by unfold numT; rw [if_pos (.inr (.inl h13))]
    refine Runs.mix 7 ?_
    (refine Runs.of_step Orc.nothing 300 ?_; simp -implicitDefEqProofs only [BB, Int.reduceEq, Int.reduceNe, Int.reduceLT, Int.reduceLE, Int.reduceGT, Int.reduceGE, Nat.reduceEqDiff, Nat.reduceAdd, Nat.reduceMul, Nat.reduceLeDiff, Nat.reduceSub, Nat.reduceLT, Nat.reduceBEq, ↓reduceIte, reduceCtorEq, ← decide_not, okind, vpre, vpure, intBin, intPre, strBin, strPre, popTo, argSlots, fldV, fldAV, subCells, idxVV, idxAAV, idxSV, sliceV, sliceSV, boundV, szIs, storeOp, storeS, setRowV, eff, extV, buildV, splice, eqSV, fitsL, eqCells, eqCell, minmaxV, capV, binBV, nilCheckV, bytesV, V.cells, V.stays, Orc.nothing, h0, h4, z1, z2, lenV_str, tt, ff, tf, ft])
    rw [hR]
    exact RetV.same rfl
  have z2 : ((T.length : Int) > 13) = False := by simp; omega
  have hpos := List.length_pos_iff.2 hnil
  have hx0 : idxSV (.str T) (.int .i64 0) = some (.int .u8 (T[0]'hpos).toNat) := by
    simp only [idxSV]; rw [if_pos (by omega)]; simp [hpos]
  have hhd : T.head? = some (T[0]'hpos) := by rw [List.head?_eq_getElem?, List.getElem?_eq_getElem hpos]
  by_cases hbad : T.head? = some 48 ∧ (T.length > 1 ∨ B = true)
  · have hR : numT B T = (0, false) := by unfold numT; rw [if_pos (.inr (.inr hbad))]
    obtain ⟨b1, b2⟩ := hbad
    rw [hhd] at b1
    simp only [Option.some.injEq] at b1
    have z3 : (((T[0]'hpos).toNat : Int) = 48) = True := by rw [b1]; simp
    rw [hR]
    refine Runs.mix 7 ?_
    by_cases h1 : T.length > 1
    · have z4 : ((T.length : Int) > 1) = True := by simp; omega
      (refine Runs.of_step Orc.nothing 300 ?_; simp -implicitDefEqProofs only [BB, Int.reduceEq, Int.reduceNe, Int.reduceLT, Int.reduceLE, Int.reduceGT, Int.reduceGE, Nat.reduceEqDiff, Nat.reduceAdd, Nat.reduceMul, Nat.reduceLeDiff, Nat.reduceSub, Nat.reduceLT, Nat.reduceBEq, ↓reduceIte, reduceCtorEq, ← decide_not, okind, vpre, vpure, intBin, intPre, strBin, strPre, popTo, argSlots, fldV, fldAV, subCells, idxVV, idxAAV, sliceV, sliceSV, boundV, szIs, storeOp, storeS, setRowV, eff, extV, buildV, splice, eqSV, fitsL, eqCells, eqCell, minmaxV, capV, binBV, nilCheckV, bytesV, V.cells, V.stays, Orc.nothing, h0, h4, z1, z2, z3, z4, hx0, lenV_str, tt, ff, tf, ft])
      exact RetV.same rfl
    · have z4 : ((T.length : Int) > 1) = False := by simp; omega
      have hB := b2.resolve_left h1
      subst hB
      (refine Runs.of_step Orc.nothing 300 ?_; simp -implicitDefEqProofs only [BB, Int.reduceEq, Int.reduceNe, Int.reduceLT, Int.reduceLE, Int.reduceGT, Int.reduceGE, Nat.reduceEqDiff, Nat.reduceAdd, Nat.reduceMul, Nat.reduceLeDiff, Nat.reduceSub, Nat.reduceLT, Nat.reduceBEq, ↓reduceIte, reduceCtorEq, ← decide_not, okind, vpre, vpure, intBin, intPre, strBin, strPre, popTo, argSlots, fldV, fldAV, subCells, idxVV, idxAAV, sliceV, sliceSV, boundV, szIs, storeOp, storeS, setRowV, eff, extV, buildV, splice, eqSV, fitsL, eqCells, eqCell, minmaxV, capV, binBV, nilCheckV, bytesV, V.cells, V.stays, Orc.nothing, h0, h4, z1, z2, z3, z4, hx0, lenV_str, tt, ff, tf, ft])
      exact RetV.same rfl
  refine Runs.cut (fun st => st.σ = σ2 ∧ st.s 0 = .str T ∧ st.s 4 = .bool B) ?_ ?_
  · refine Runs.mix 7 ?_
    by_cases h48 : T[0]'hpos = 48
    · have z3 : (((T[0]'hpos).toNat : Int) = 48) = True := by rw [h48]; simp
      have hh : ¬ (T.length > 1 ∨ B = true) := fun e => hbad ⟨by rw [hhd, h48], e⟩
      have h1 : ¬ T.length > 1 := fun e => hh (.inl e)
      have z4 : ((T.length : Int) > 1) = False := by simp; omega
      have hB : B = false := by cases B; rfl; exact absurd (.inr rfl) hh
      subst hB
      (refine Runs.of_step Orc.nothing 300 ?_; simp -implicitDefEqProofs only [BB, Int.reduceEq, Int.reduceNe, Int.reduceLT, Int.reduceLE, Int.reduceGT, Int.reduceGE, Nat.reduceEqDiff, Nat.reduceAdd, Nat.reduceMul, Nat.reduceLeDiff, Nat.reduceSub, Nat.reduceLT, Nat.reduceBEq, ↓reduceIte, reduceCtorEq, ← decide_not, okind, vpre, vpure, intBin, intPre, strBin, strPre, popTo, argSlots, fldV, fldAV, subCells, idxVV, idxAAV, sliceV, sliceSV, boundV, szIs, storeOp, storeS, setRowV, eff, extV, buildV, splice, eqSV, fitsL, eqCells, eqCell, minmaxV, capV, binBV, nilCheckV, bytesV, V.cells, V.stays, Orc.nothing, h0, h4, z1, z2, z3, z4, hx0, lenV_str, tt, ff, tf, ft])
      all_goals simp [h0, h4]
    · have z3 : (((T[0]'hpos).toNat : Int) = 48) = False := by
        simp only [eq_iff_iff, iff_false]; intro e; exact h48 (UInt8.toNat_inj.1 (by have : (48 : UInt8).toNat = 48 := rfl; omega))
      (refine Runs.of_step Orc.nothing 300 ?_; simp -implicitDefEqProofs only [BB, Int.reduceEq, Int.reduceNe, Int.reduceLT, Int.reduceLE, Int.reduceGT, Int.reduceGE, Nat.reduceEqDiff, Nat.reduceAdd, Nat.reduceMul, Nat.reduceLeDiff, Nat.reduceSub, Nat.reduceLT, Nat.reduceBEq, ↓reduceIte, reduceCtorEq, ← decide_not, okind, vpre, vpure, intBin, intPre, strBin, strPre, popTo, argSlots, fldV, fldAV, subCells, idxVV, idxAAV, sliceV, sliceSV, boundV, szIs, storeOp, storeS, setRowV, eff, extV, buildV, splice, eqSV, fitsL, eqCells, eqCell, minmaxV, capV, binBV, nilCheckV, bytesV, V.cells, V.stays, Orc.nothing, h0, h4, z1, z2, z3, hx0, lenV_str, tt, ff, tf, ft])
      all_goals simp [h0, h4]
  rintro ⟨s3, σ3⟩ ⟨rfl, h0, h4⟩
  simp only at h0 h4
  have hR : numT B T = match digs T 0 with
    | none => (0, false)
    | some n => ((if B then -(n : Int) else n), decide (clampI (if B then -(n : Int) else n) = (if B then -(n : Int) else n))) := by
    unfold numT
    rw [if_neg (by rintro (h | h | h); exact hnil h; exact h13 h; exact hbad h)]
    all_goals (cases digs T 0 <;> rfl)
  rw [hR]
  clear hR
  refine Runs.mix 7 ?_
  (refine Runs.of_step Orc.nothing 300 ?_; simp -implicitDefEqProofs only [BB, Int.reduceEq, Int.reduceNe, Int.reduceLT, Int.reduceLE, Int.reduceGT, Int.reduceGE, Nat.reduceEqDiff, Nat.reduceAdd, Nat.reduceMul, Nat.reduceLeDiff, Nat.reduceSub, Nat.reduceLT, Nat.reduceBEq, ↓reduceIte, reduceCtorEq, ← decide_not, okind, vpre, vpure, intBin, intPre, strBin, strPre, popTo, argSlots, fldV, fldAV, subCells, idxVV, idxAAV, idxSV, sliceV, sliceSV, boundV, szIs, storeOp, storeS, setRowV, eff, extV, buildV, splice, eqSV, fitsL, eqCells, eqCell, minmaxV, capV, binBV, nilCheckV, bytesV, V.cells, V.stays, Orc.nothing, h0, h4])
  refine Runs.loop (fun m st => ∃ i n : Nat, i ≤ T.length ∧ m = T.length - i ∧ st.σ = σ3 ∧ digs (T.take i) 0 = some n ∧ st.s 0 = .str T ∧ st.s 4 = .bool B ∧ st.s 5 = vI n ∧ st.s 6 = vI i) T.length ?_ ?_
  · exact ⟨0, 0, by omega, by omega, rfl, by simp [digs], h0, h4, rfl, rfl⟩
  rintro m ⟨s', σ'⟩ ⟨i, n, hi, rfl, hσ, hdg, g0, g4, g5, g6⟩
  simp only at hσ g0 g4 g5 g6
  subst hσ
  have hnb := numT_bound (by omega) i n hi hdg
  have hpow : 10 ^ i ≤ 10 ^ 13 := Nat.pow_le_pow_right (by omega) (by omega)
  refine Runs.mix 7 ?_
  by_cases hlt : i < T.length
  · have hlt' : ((i : Int) < (T.length : Int)) = True := by simp; omega
    have hidx : idxSV (.str T) (vI i) = some (.int .u8 (T[i]).toNat) := by
      simp only [idxSV]; rw [if_pos (by omega)]; simp [hlt]
    have htk : T.take (i + 1) = T.take i ++ [T[i]] := by rw [List.take_add_one, List.getElem?_eq_getElem hlt]; rfl
    have hsn := digs_snoc T[i] (T.take i) 0
    rw [← htk, hdg, Option.bind_some] at hsn
    have hstop := digs_stop (T := T) (i := i + 1)
    generalize T[i] = b at *
    by_cases q1 : b.toNat < 48
    · have y1 : ((b.toNat : Int) < 48) = True := by simp; omega
      rw [if_neg (by omega)] at hsn
      (refine Runs.of_step Orc.nothing 300 ?_; simp -implicitDefEqProofs only [BB, Int.reduceEq, Int.reduceNe, Int.reduceLT, Int.reduceLE, Int.reduceGT, Int.reduceGE, Nat.reduceEqDiff, Nat.reduceAdd, Nat.reduceMul, Nat.reduceLeDiff, Nat.reduceSub, Nat.reduceLT, Nat.reduceBEq, ↓reduceIte, reduceCtorEq, ← decide_not, okind, vpre, vpure, intBin, intPre, strBin, strPre, popTo, argSlots, fldV, fldAV, subCells, idxVV, idxAAV, sliceV, sliceSV, boundV, szIs, storeOp, storeS, setRowV, eff, extV, buildV, splice, eqSV, fitsL, eqCells, eqCell, minmaxV, capV, binBV, nilCheckV, bytesV, V.cells, V.stays, Orc.nothing, g0, g4, g5, g6, lenV_str, hlt', hidx, y1, tt, ff, tf, ft])
      rw [hstop hsn]
      exact RetV.same rfl
    · have y1 : ((b.toNat : Int) < 48) = False := by simp; omega
      by_cases q2 : b.toNat > 57
      · have y2 : ((b.toNat : Int) > 57) = True := by simp; omega
        rw [if_neg (by omega)] at hsn
        (refine Runs.of_step Orc.nothing 300 ?_; simp -implicitDefEqProofs only [BB, Int.reduceEq, Int.reduceNe, Int.reduceLT, Int.reduceLE, Int.reduceGT, Int.reduceGE, Nat.reduceEqDiff, Nat.reduceAdd, Nat.reduceMul, Nat.reduceLeDiff, Nat.reduceSub, Nat.reduceLT, Nat.reduceBEq, ↓reduceIte, reduceCtorEq, ← decide_not, okind, vpre, vpure, intBin, intPre, strBin, strPre, popTo, argSlots, fldV, fldAV, subCells, idxVV, idxAAV, sliceV, sliceSV, boundV, szIs, storeOp, storeS, setRowV, eff, extV, buildV, splice, eqSV, fitsL, eqCells, eqCell, minmaxV, capV, binBV, nilCheckV, bytesV, V.cells, V.stays, Orc.nothing, g0, g4, g5, g6, lenV_str, hlt', hidx, y1, y2, tt, ff, tf, ft])
        rw [hstop hsn]
        exact RetV.same rfl
      · have y2 : ((b.toNat : Int) > 57) = False := by simp; omega
        rw [if_pos (by omega)] at hsn
        have r1 : inR .i64 (10 * (n : Int)) := inR_i64 (by omega) (by omega)
        have r2 : inR .u8 ((b.toNat : Int) - 48) := inR_u8 (by omega) (by omega)
        have r3 : inR .i64 ((b.toNat : Int) - 48) := inR_i64 (by omega) (by omega)
        have r4 : inR .i64 (10 * (n : Int) + ((b.toNat : Int) - 48)) := inR_i64 (by omega) (by omega)
        have r5 : inR .i64 ((i : Int) + 1) := inR_i64 (by omega) (by omega)
        (refine Runs.of_step Orc.nothing 300 ?_; simp -implicitDefEqProofs only [BB, Int.reduceEq, Int.reduceNe, Int.reduceLT, Int.reduceLE, Int.reduceGT, Int.reduceGE, Nat.reduceEqDiff, Nat.reduceAdd, Nat.reduceMul, Nat.reduceLeDiff, Nat.reduceSub, Nat.reduceLT, Nat.reduceBEq, ↓reduceIte, reduceCtorEq, ← decide_not, okind, vpre, vpure, intBin, intPre, strBin, strPre, popTo, argSlots, fldV, fldAV, subCells, idxVV, idxAAV, sliceV, sliceSV, boundV, szIs, storeOp, storeS, setRowV, eff, extV, buildV, splice, eqSV, fitsL, eqCells, eqCell, minmaxV, capV, binBV, nilCheckV, bytesV, V.cells, V.stays, Orc.nothing, g0, g4, g5, g6, lenV_str, hlt', hidx, y1, y2, tt, ff, tf, ft, r1, r2, r3, r4, r5])
        refine ⟨_, ?_, i + 1, _, by omega, rfl, hsn, ?_⟩
        · omega
        · simp [g0, g4]; omega
  · have hlt' : ((i : Int) < (T.length : Int)) = False := by simp; omega
    obtain rfl : i = T.length := by omega
    rw [List.take_length] at hdg
    rw [hdg]
    cases B with
    | false =>
      (refine Runs.of_step Orc.nothing 300 ?_; simp -implicitDefEqProofs only [BB, Int.reduceEq, Int.reduceNe, Int.reduceLT, Int.reduceLE, Int.reduceGT, Int.reduceGE, Nat.reduceEqDiff, Nat.reduceAdd, Nat.reduceMul, Nat.reduceLeDiff, Nat.reduceSub, Nat.reduceLT, Nat.reduceBEq, ↓reduceIte, reduceCtorEq, ← decide_not, okind, vpre, vpure, intBin, intPre, strBin, strPre, popTo, argSlots, fldV, fldAV, subCells, idxVV, idxAAV, idxSV, sliceV, sliceSV, boundV, szIs, storeOp, storeS, setRowV, eff, extV, buildV, splice, eqSV, fitsL, eqCells, eqCell, minmaxV, capV, binBV, nilCheckV, bytesV, V.cells, V.stays, Orc.nothing, g0, g4, g5, g6, lenV_str, hlt', tt, ff, tf, ft])
      have hc := clamp37_c (n : Int) σ'
      refine Runs.pcall rfl rfl rfl hc ?_
      (refine Runs.of_step Orc.nothing 300 ?_; simp -implicitDefEqProofs only [BB, Int.reduceEq, Int.reduceNe, Int.reduceLT, Int.reduceLE, Int.reduceGT, Int.reduceGE, Nat.reduceEqDiff, Nat.reduceAdd, Nat.reduceMul, Nat.reduceLeDiff, Nat.reduceSub, Nat.reduceLT, Nat.reduceBEq, ↓reduceIte, reduceCtorEq, ← decide_not, okind, vpre, vpure, intBin, intPre, strBin, strPre, popTo, argSlots, fldV, fldAV, subCells, idxVV, idxAAV, idxSV, sliceV, sliceSV, boundV, szIs, storeOp, storeS, setRowV, eff, extV, buildV, splice, eqSV, fitsL, eqCells, eqCell, minmaxV, capV, binBV, nilCheckV, bytesV, V.cells, V.stays, Orc.nothing, g5])
      exact RetV.same rfl
    | true =>
      have q : (0 - (n : Int)) = -(n : Int) := by omega
      have r1 : inR .i64 (-(n : Int)) := inR_i64 (by omega) (by omega)
      (refine Runs.of_step Orc.nothing 300 ?_; simp -implicitDefEqProofs only [BB, Int.reduceEq, Int.reduceNe, Int.reduceLT, Int.reduceLE, Int.reduceGT, Int.reduceGE, Nat.reduceEqDiff, Nat.reduceAdd, Nat.reduceMul, Nat.reduceLeDiff, Nat.reduceSub, Nat.reduceLT, Nat.reduceBEq, ↓reduceIte, reduceCtorEq, ← decide_not, okind, vpre, vpure, intBin, intPre, strBin, strPre, popTo, argSlots, fldV, fldAV, subCells, idxVV, idxAAV, idxSV, sliceV, sliceSV, boundV, szIs, storeOp, storeS, setRowV, eff, extV, buildV, splice, eqSV, fitsL, eqCells, eqCell, minmaxV, capV, binBV, nilCheckV, bytesV, V.cells, V.stays, Orc.nothing, g0, g4, g5, g6, lenV_str, hlt', tt, ff, tf, ft, q, r1])
      have hc := clamp37_c (-(n : Int)) σ'
      refine Runs.pcall rfl rfl rfl hc ?_
      (refine Runs.of_step Orc.nothing 300 ?_; simp -implicitDefEqProofs only [BB, Int.reduceEq, Int.reduceNe, Int.reduceLT, Int.reduceLE, Int.reduceGT, Int.reduceGE, Nat.reduceEqDiff, Nat.reduceAdd, Nat.reduceMul, Nat.reduceLeDiff, Nat.reduceSub, Nat.reduceLT, Nat.reduceBEq, ↓reduceIte, reduceCtorEq, ← decide_not, okind, vpre, vpure, intBin, intPre, strBin, strPre, popTo, argSlots, fldV, fldAV, subCells, idxVV, idxAAV, idxSV, sliceV, sliceSV, boundV, szIs, storeOp, storeS, setRowV, eff, extV, buildV, splice, eqSV, fitsL, eqCells, eqCell, minmaxV, capV, binBV, nilCheckV, bytesV, V.cells, V.stays, Orc.nothing, g5])
      exact RetV.same rfl
end Go.Vc
namespace Go.Vc
open Go.Proofs
def numsQ (l : List (List UInt8)) (i : Nat) : List V := (l.take i).map (fun w => vI (numR w).1) ++ List.replicate (4 - i) (vI 0)
theorem numsQ_len (l : List (List UInt8)) (i : Nat) (hl : l.length = 4) (hi : i ≤ 4) : (numsQ l i).length = 4 := by simp [numsQ]; omega
theorem numsQ_set (l : List (List UInt8)) (i : Nat) (hl : l.length = 4) (hi : i < 4) : splice (numsQ l i) i [vI (numR (l[i]'(by omega))).1] = numsQ l (i + 1) := by
  match l, hl with
  | [a, b, c, d], _ =>
    have : i = 0 ∨ i = 1 ∨ i = 2 ∨ i = 3 := by omega
    rcases this with rfl | rfl | rfl | rfl <;> simp [numsQ, splice, List.replicate]
/-- a line, to the code and to the answer -/
theorem line_not {p : List UInt8} (h : (splitL 32 p).length ≠ 4) : (fillR p).2 = false := by
  unfold fillR; split
  · rename_i h1; rw [h1] at h; simp at h
  · rfl
theorem line_bad {p a b c d : List UInt8} (h : splitL 32 p = [a, b, c, d]) (hb : ∃ w ∈ [a, b, c, d], (numR w).2 = false) : (fillR p).2 = false := by
  have e : fillR p = if okW a && (okW b && (okW c && okW d)) then (⟨numW a, numW b, numW c, numW d⟩, rightB ⟨numW a, numW b, numW c, numW d⟩) else (zeroF, false) := by unfold fillR; rw [h]
  rw [e]
  split
  · rename_i hok
    simp only [Bool.and_eq_true] at hok
    obtain ⟨w, hw, hn⟩ := hb
    have hwok : okW w = true := by
      simp only [List.mem_cons, List.not_mem_nil, or_false] at hw
      rcases hw with rfl | rfl | rfl | rfl
      · exact hok.1
      · exact hok.2.1
      · exact hok.2.2.1
      · exact hok.2.2.2
    have hbad : badN (numW w) = true := by
      cases hq : badN (numW w) with
      | true => rfl
      | false => rw [(num_law w).1.2 ⟨hwok, hq⟩] at hn; cases hn
    simp only [rightB, Bool.not_eq_false']
    rw [List.any_eq_true]
    simp only [List.mem_cons, List.not_mem_nil, or_false] at hw
    rcases hw with rfl | rfl | rfl | rfl
    · exact ⟨_, by simp, hbad⟩
    · exact ⟨_, by simp, hbad⟩
    · exact ⟨_, by simp, hbad⟩
    · exact ⟨_, by simp, hbad⟩
  · rfl
theorem line_good {p a b c d : List UInt8} (h : splitL 32 p = [a, b, c, d]) (hg : ∀ w ∈ [a, b, c, d], (numR w).2 = true) : fillR p = (⟨(numR a).1, (numR b).1, (numR c).1, (numR d).1⟩, true) := by
  have e : fillR p = if okW a && (okW b && (okW c && okW d)) then (⟨numW a, numW b, numW c, numW d⟩, rightB ⟨numW a, numW b, numW c, numW d⟩) else (zeroF, false) := by unfold fillR; rw [h]
  have ha := (num_law a).1.1 (hg a (by simp))
  have hb := (num_law b).1.1 (hg b (by simp))
  have hc := (num_law c).1.1 (hg c (by simp))
  have hd := (num_law d).1.1 (hg d (by simp))
  rw [e, if_pos (by simp [ha, hb, hc, hd]), (num_law a).2 (hg a (by simp)), (num_law b).2 (hg b (by simp)), (num_law c).2 (hg c (by simp)), (num_law d).2 (hg d (by simp))]
  congr 1
  simp [rightB, ha, hb, hc, hd]
theorem rdL_step {L : List (List UInt8)} {i : Nat} (h : i + 1 < L.length) : rdL (L.drop i) i = if (fillR (L[i]'(by omega))).2 then (match rdL (L.drop (i + 1)) (i + 1) with
    | .ok l => .ok ((fillR (L[i]'(by omega))).1 :: l)
    | .error e => .error e) else .error (i + 1) := by
  rw [List.drop_eq_getElem_cons (by omega), List.drop_eq_getElem_cons h]
  rfl
set_option maxRecDepth 100000 in
theorem read11_c (s : List UInt8) (hs : s.length ≤ 1000000) : PFun Tryd.prog 11 [.str s] (rdV (rdL (splitL 10 s) 0)) := fun σ => by
  refine Contract.of_runs Tryd.func11 e11 k11 (by simp [c11]) ?_
  refine Runs.mix 11 ?_
  (refine Runs.of_step Orc.nothing 300 ?_; simp -implicitDefEqProofs only [BB, Int.reduceEq, Int.reduceNe, Int.reduceLT, Int.reduceLE, Int.reduceGT, Int.reduceGE, Nat.reduceEqDiff, Nat.reduceAdd, Nat.reduceMul, Nat.reduceLeDiff, Nat.reduceSub, Nat.reduceLT, Nat.reduceBEq, ↓reduceIte, reduceCtorEq, ← decide_not, okind, vpre, vpure, intBin, intPre, strBin, strPre, popTo, argSlots, fldV, fldAV, subCells, idxVV, idxAAV, idxSV, sliceV, sliceSV, boundV, szIs, storeOp, storeS, setRowV, eff, extV, buildV, splice, eqSV, fitsL, eqCells, eqCell, minmaxV, capV, binBV, nilCheckV, bytesV, V.cells, V.stays, Orc.nothing, c11])
  refine Runs.pcall rfl rfl rfl (split26_c s 10 (by omega) _) ?_
  have hne := splitL_ne 10 s
  have hpos := List.length_pos_iff.2 hne
  have hLl : (splitL 10 s).length ≤ 1000001 := by
    rw [splitL_len]
    have := List.count_le_length (a := (10 : UInt8)) (l := s); omega
  have hpart := splitL_part 10 s
  generalize splitL 10 s = L at *
  have r0 : inR .i64 ((L.length : Int) - 1) := inR_i64 (by omega) (by omega)
  (refine Runs.of_step Orc.nothing 300 ?_; simp -implicitDefEqProofs only [BB, Int.reduceEq, Int.reduceNe, Int.reduceLT, Int.reduceLE, Int.reduceGT, Int.reduceGE, Nat.reduceEqDiff, Nat.reduceAdd, Nat.reduceMul, Nat.reduceLeDiff, Nat.reduceSub, Nat.reduceLT, Nat.reduceBEq, ↓reduceIte, reduceCtorEq, ← decide_not, okind, vpre, vpure, intBin, intPre, strBin, strPre, popTo, argSlots, fldV, fldAV, subCells, idxVV, idxAAV, idxSV, sliceV, sliceSV, boundV, szIs, storeOp, storeS, setRowV, eff, extV, buildV, splice, eqSV, fitsL, eqCells, eqCell, minmaxV, capV, binBV, nilCheckV, bytesV, V.cells, V.stays, Orc.nothing])
  refine Runs.loop (fun m st => ∃ (i : Nat) (d : List Fl), i + 1 ≤ L.length ∧ m = L.length - i ∧ d.length = i ∧ rdL L 0 = preE d (rdL (L.drop i) i) ∧ SubStore σ st.σ ∧ OutV σ st.σ 24 4 (st.s 5) (d.map encF) ∧ st.s 6 = encS L ∧ st.s 7 = vI i) L.length ?_ ?_
  · refine ⟨0, [], by omega, by omega, rfl, ?_, SubStore.refl σ, OutV.start, rfl, rfl⟩
    rw [List.drop_zero]; cases rdL L 0 <;> rfl
  · rintro m ⟨s', σ'⟩ ⟨i, d, hi, rfl, hd, hp, hsub, hout, h6, h7⟩
    simp only at hsub hout h6 h7
    generalize hv5 : s' 5 = v5 at *
    refine Runs.mix 11 ?_
    have r1 : inR .i64 ((i : Int) + 1) := inR_i64 (by omega) (by omega)
    by_cases hlt : i + 1 < L.length
    · have hlt' : ((i : Int) < (L.length : Int) - 1) = True := eq_true (by omega)
      have hidx := idx_encS (σ := σ') (l := L) (i := i) (by omega)
      have hstep := rdL_step hlt
      have hpl : (L[i]'(by omega)).length ≤ 1000000 := Nat.le_trans (hpart _ (List.getElem_mem _)) hs
      generalize L[i]'(by omega) = p at *
      (refine Runs.of_step Orc.nothing 300 ?_; simp -implicitDefEqProofs only [BB, Int.reduceEq, Int.reduceNe, Int.reduceLT, Int.reduceLE, Int.reduceGT, Int.reduceGE, Nat.reduceEqDiff, Nat.reduceAdd, Nat.reduceMul, Nat.reduceLeDiff, Nat.reduceSub, Nat.reduceLT, Nat.reduceBEq, ↓reduceIte, reduceCtorEq, ← decide_not, okind, vpre, vpure, intBin, intPre, strBin, strPre, popTo, argSlots, fldV, fldAV, subCells, idxVV, idxAAV, idxSV, sliceV, sliceSV, boundV, szIs, storeOp, storeS, setRowV, eff, extV, buildV, splice, eqSV, fitsL, eqCells, eqCell, minmaxV, capV, binBV, nilCheckV, bytesV, V.cells, V.stays, Orc.nothing, hv5, h6, h7, len_encS, hlt', r0, hidx, loadV_rp_str])
      refine Runs.pcall rfl rfl rfl (split26_c p 32 (by omega) _) ?_
      have hWp := splitL_part 32 p
      have hnot := line_not (p := p)
      have hbad := @line_bad p
      have hgood := @line_good p
      generalize hW : splitL 32 p = W at *
      by_cases h4 : W.length = 4
      · have q1 : ((W.length : Int) ≠ 4) = False := by simp; omega
        (refine Runs.of_step Orc.nothing 300 ?_; simp -implicitDefEqProofs only [BB, Int.reduceEq, Int.reduceNe, Int.reduceLT, Int.reduceLE, Int.reduceGT, Int.reduceGE, Nat.reduceEqDiff, Nat.reduceAdd, Nat.reduceMul, Nat.reduceLeDiff, Nat.reduceSub, Nat.reduceLT, Nat.reduceBEq, ↓reduceIte, reduceCtorEq, ← decide_not, okind, vpre, vpure, intBin, intPre, strBin, strPre, popTo, argSlots, fldV, fldAV, subCells, idxVV, idxAAV, idxSV, sliceV, sliceSV, boundV, szIs, storeOp, storeS, setRowV, eff, extV, buildV, splice, eqSV, fitsL, eqCells, eqCell, minmaxV, capV, binBV, nilCheckV, bytesV, V.cells, V.stays, Orc.nothing, hv5, h6, h7, len_encS, q1])
        refine effR_new fun id9 σ9 s9 a9 f9 => ?_
        simp -implicitDefEqProofs only [BB, Int.reduceEq, Int.reduceNe, Int.reduceLT, Int.reduceLE, Int.reduceGT, Int.reduceGE, Nat.reduceEqDiff, Nat.reduceAdd, Nat.reduceMul, Nat.reduceLeDiff, Nat.reduceSub, Nat.reduceLT, Nat.reduceBEq, ↓reduceIte, reduceCtorEq, ← decide_not, okind, vpre, vpure, intBin, intPre, strBin, strPre, popTo, argSlots, fldV, fldAV, subCells, idxVV, idxAAV, idxSV, sliceV, sliceSV, boundV, szIs, storeOp, storeS, setRowV, eff, extV, buildV, splice, eqSV, fitsL, eqCells, eqCell, minmaxV, capV, binBV, nilCheckV, bytesV, V.cells, V.stays]
        refine Runs.loop (fun m st => ∃ k : Nat, k ≤ 4 ∧ m = 4 - k ∧ st.σ = upd σ9 id9 ⟨53, 4, [.agg (numsQ W k)]⟩ ∧ (∀ w ∈ W.take k, (numR w).2 = true) ∧ st.s 5 = v5 ∧ st.s 6 = encS L ∧ st.s 7 = vI i ∧ st.s 8 = encS W ∧ st.s 9 = .ptr id9 0 0 ∧ st.s 10 = vI k) 4 ?_ ?_
        · exact ⟨0, by omega, by omega, by rw [upd_self]; rw [a9]; rfl, by simp, hv5, h6, h7, rfl, rfl, rfl⟩
        · rintro m ⟨s2', σ2⟩ ⟨k, hk, rfl, hσ, hall, g5, g6, g7, g8, g9, g10⟩
          simp only at hσ g5 g6 g7 g8 g9 g10
          subst hσ
          refine Runs.mix 11 ?_
          have n9 : σ' id9 = none := f9
          have hss : SubStore σ (upd σ9 id9 ⟨53, 4, [.agg (numsQ W k)]⟩) := (hsub.trans s9).updK (hsub.none f9)
          by_cases hkt : k < 4
          · have hkt' : ((k : Int) < 4) = True := eq_true (by omega)
            have hidw := idx_encS (σ := upd σ9 id9 ⟨53, 4, [.agg (numsQ W k)]⟩) (l := W) (i := k) (by omega)
            have htk : W.take (k + 1) = W.take k ++ [W[k]'(by omega)] := by rw [List.take_add_one, List.getElem?_eq_getElem (by omega)]; rfl
            have hset := numsQ_set W k h4 hkt
            have hwl : (W[k]'(by omega)).length ≤ 1000000 := Nat.le_trans (hWp _ (List.getElem_mem _)) hpl
            have hmem : W[k]'(by omega) ∈ W := List.getElem_mem _
            generalize W[k]'(by omega) = w at *
            (refine Runs.of_step Orc.nothing 300 ?_; simp -implicitDefEqProofs only [BB, Int.reduceEq, Int.reduceNe, Int.reduceLT, Int.reduceLE, Int.reduceGT, Int.reduceGE, Nat.reduceEqDiff, Nat.reduceAdd, Nat.reduceMul, Nat.reduceLeDiff, Nat.reduceSub, Nat.reduceLT, Nat.reduceBEq, ↓reduceIte, reduceCtorEq, ← decide_not, okind, vpre, vpure, intBin, intPre, strBin, strPre, popTo, argSlots, fldV, fldAV, subCells, idxVV, idxAAV, idxSV, sliceV, sliceSV, boundV, szIs, storeOp, storeS, setRowV, eff, extV, buildV, splice, eqSV, fitsL, eqCells, eqCell, minmaxV, capV, binBV, nilCheckV, bytesV, V.cells, V.stays, Orc.nothing, g5, g6, g7, g8, g9, g10, hkt', hidw, loadV_rp_str])
            refine Runs.pcall rfl rfl rfl (number_c w (by omega) _) ?_
            generalize hN : numR w = N at *
            obtain ⟨x, ok⟩ := N
            cases ok
            · (refine Runs.of_step Orc.nothing 300 ?_; simp -implicitDefEqProofs only [BB, Int.reduceEq, Int.reduceNe, Int.reduceLT, Int.reduceLE, Int.reduceGT, Int.reduceGE, Nat.reduceEqDiff, Nat.reduceAdd, Nat.reduceMul, Nat.reduceLeDiff, Nat.reduceSub, Nat.reduceLT, Nat.reduceBEq, ↓reduceIte, reduceCtorEq, ← decide_not, okind, vpre, vpure, intBin, intPre, strBin, strPre, popTo, argSlots, fldV, fldAV, subCells, idxVV, idxAAV, idxSV, sliceV, sliceSV, boundV, szIs, storeOp, storeS, setRowV, eff, extV, buildV, splice, eqSV, fitsL, eqCells, eqCell, minmaxV, capV, binBV, nilCheckV, bytesV, V.cells, V.stays, Orc.nothing, g5, g6, g7, g8, g9, g10, r1])
              have hf : (fillR p).2 = false := by
                match W, h4 with
                | [a, b, c, d], _ => exact hbad rfl ⟨w, hmem, by rw [hN]⟩
              refine ⟨_, σ, hss, Wk.tup (vs' := [.sl 4 [], vI (i + 1 : Nat), vI 1]) ⟨Wk.nils 4, Wk.refl hss _, Wk.refl hss _, trivial⟩, ?_, rfl⟩
              rw [hp, hstep, hf]; simp [preE, rdV]
            · have hiA : idxAAV false 4 1 (.ptr id9 0 0) (vI k) = some (.ptr id9 0 k) := by
                simp only [idxAAV]; rw [if_pos (by simp; omega)]; simp
              have hst : storeS (upd σ9 id9 ⟨53, 4, [.agg (numsQ W k)]⟩) 1 (.ptr id9 0 k) (vI x) = some (upd σ9 id9 ⟨53, 4, [.agg (numsQ W (k + 1))]⟩) := by
                have e : setRowV (.agg (numsQ W k)) k 1 (vI x) = some (.agg (numsQ W (k + 1))) := by
                  have h1 := numsQ_len W k h4 hk
                  unfold setRowV
                  rw [if_pos ⟨rfl, rfl⟩, if_neg (by simp [V.cells, h1]), if_pos (by simp [V.cells, h1]; omega), ← hset]; rfl
                simp only [storeS, upd_same, List.getElem?_cons_zero, e, upd_upd, List.set_cons_zero]
              have r2 : inR .i64 ((k : Int) + 1) := inR_i64 (by omega) (by omega)
              (refine Runs.of_step Orc.nothing 300 ?_; simp -implicitDefEqProofs only [BB, Int.reduceEq, Int.reduceNe, Int.reduceLT, Int.reduceLE, Int.reduceGT, Int.reduceGE, Nat.reduceEqDiff, Nat.reduceAdd, Nat.reduceMul, Nat.reduceLeDiff, Nat.reduceSub, Nat.reduceLT, Nat.reduceBEq, ↓reduceIte, reduceCtorEq, ← decide_not, okind, vpre, vpure, intBin, intPre, strBin, strPre, popTo, argSlots, fldV, fldAV, subCells, idxVV, idxSV, sliceV, sliceSV, boundV, szIs, storeOp, setRowV, eff, extV, buildV, splice, eqSV, fitsL, eqCells, eqCell, minmaxV, capV, binBV, nilCheckV, bytesV, V.cells, V.stays, Orc.nothing, g5, g6, g7, g8, g9, g10, hiA, hst, r2])
              refine ⟨_, by omega, k + 1, by omega, rfl, rfl, ?_, by simp [g5, g6, g7, g8, g9]⟩
              intro y hy
              rw [htk] at hy
              rcases List.mem_append.1 hy with hy | hy
              · exact hall y hy
              · simp at hy; subst hy; rw [hN]
          · have hkt' : ((k : Int) < 4) = False := eq_false (by omega)
            obtain rfl : k = 4 := by omega
            obtain ⟨a, b, c, dd, hWl⟩ : ∃ a b c dd, W = [a, b, c, dd] := by
              match W, h4 with
              | [a, b, c, d], _ => exact ⟨a, b, c, d, rfl⟩
            have hf : fillR p = (⟨(numR a).1, (numR b).1, (numR c).1, (numR dd).1⟩, true) := hgood hWl (fun w hw => hall w (by rw [List.take_of_length_le (by omega), hWl]; exact hw))
            have hn4 : numsQ W 4 = [vI (numR a).1, vI (numR b).1, vI (numR c).1, vI (numR dd).1] := by rw [hWl]; rfl
            rw [hn4] at hss ⊢
            rw [hf] at hstep
            generalize (numR a).1 = na, (numR b).1 = nb, (numR c).1 = nc, (numR dd).1 = nd at *
            have i0 : idxAAV false 4 1 (.ptr id9 0 0) (vI 0) = some (.ptr id9 0 0) := rfl
            have i1 : idxAAV false 4 1 (.ptr id9 0 0) (vI 1) = some (.ptr id9 0 1) := rfl
            have i2 : idxAAV false 4 1 (.ptr id9 0 0) (vI 2) = some (.ptr id9 0 2) := rfl
            have i3 : idxAAV false 4 1 (.ptr id9 0 0) (vI 3) = some (.ptr id9 0 3) := rfl
            have hout9 : OutV σ (upd σ9 id9 ⟨53, 4, [.agg [vI na, vI nb, vI nc, vI nd]]⟩) 24 4 v5 (d.map encF) := hout.mono (s9.updK f9)
            (refine Runs.of_step Orc.nothing 300 ?_; simp -implicitDefEqProofs only [BB, Int.reduceEq, Int.reduceNe, Int.reduceLT, Int.reduceLE, Int.reduceGT, Int.reduceGE, Nat.reduceEqDiff, Nat.reduceAdd, Nat.reduceMul, Nat.reduceLeDiff, Nat.reduceSub, Nat.reduceLT, Nat.reduceBEq, ↓reduceIte, reduceCtorEq, ← decide_not, okind, vpre, vpure, intBin, intPre, strBin, strPre, popTo, argSlots, fldV, fldAV, subCells, idxVV, idxSV, sliceV, sliceSV, boundV, szIs, storeOp, storeS, setRowV, eff, extV, buildV, splice, eqSV, fitsL, eqCells, eqCell, minmaxV, capV, binBV, nilCheckV, bytesV, V.cells, V.stays, Orc.nothing, g5, g6, g7, g8, g9, g10, hkt', upd_same, i0, i1, i2, i3])
            refine effR_new fun id1 σ1 s1 a1 f1 => ?_
            obtain ⟨idA, hda, hdel⟩ := hout9.dst s1
            have s2 := hss.trans s1
            have hb2 : (i + 1) * 33 ≤ 140737488355328 := by omega
            simp -implicitDefEqProofs only [BB, Int.reduceEq, Int.reduceNe, Int.reduceLT, Int.reduceLE, Int.reduceGT, Int.reduceGE, Nat.reduceEqDiff, Nat.reduceAdd, Nat.reduceMul, Nat.reduceLeDiff, Nat.reduceSub, Nat.reduceLT, Nat.reduceBEq, ↓reduceIte, reduceCtorEq, ← decide_not, okind, vpre, vpure, intBin, intPre, strBin, strPre, popTo, argSlots, fldV, fldAV, subCells, idxVV, idxAAV, idxSV, sliceV, sliceSV, boundV, szIs, storeOp, storeS, setRowV, eff, extV, buildV, splice, eqSV, fitsL, eqCells, eqCell, minmaxV, capV, binBV, nilCheckV, bytesV, V.cells, V.stays, hda, srcOne a1, List.length_map, hd, hb2, g5, g6, g7]
            refine effR_put fun id2 σ2 s3 a2 f2 => ?_
            have s4 := (hdel σ (SubStore.refl _) σ1 s2).trans s3
            simp -implicitDefEqProofs only [BB, Int.reduceEq, Int.reduceNe, Int.reduceLT, Int.reduceLE, Int.reduceGT, Int.reduceGE, Nat.reduceEqDiff, Nat.reduceAdd, Nat.reduceMul, Nat.reduceLeDiff, Nat.reduceSub, Nat.reduceLT, Nat.reduceBEq, ↓reduceIte, reduceCtorEq, ← decide_not, okind, vpre, vpure, intBin, intPre, strBin, strPre, popTo, argSlots, fldV, fldAV, subCells, idxVV, idxAAV, idxSV, sliceV, sliceSV, boundV, szIs, storeOp, storeS, setRowV, eff, extV, buildV, splice, eqSV, fitsL, eqCells, eqCell, minmaxV, capV, binBV, nilCheckV, bytesV, V.cells, V.stays, g6, g7, r1]
            refine ⟨_, ?_, i + 1, d ++ [⟨na, nb, nc, nd⟩], by omega, rfl, by simp [hd], ?_, s4, ?_, by simp [g6]⟩
            · omega
            · rw [hp, hstep]; cases rdL (L.drop (i + 1)) (i + 1) <;> simp [preE]
            · exact OutV.new (by simp [hd]) (by rw [a2]; simp [encF]) (s2.none f2)
      · have q1 : ((W.length : Int) ≠ 4) = True := by simp; omega
        (refine Runs.of_step Orc.nothing 300 ?_; simp -implicitDefEqProofs only [BB, Int.reduceEq, Int.reduceNe, Int.reduceLT, Int.reduceLE, Int.reduceGT, Int.reduceGE, Nat.reduceEqDiff, Nat.reduceAdd, Nat.reduceMul, Nat.reduceLeDiff, Nat.reduceSub, Nat.reduceLT, Nat.reduceBEq, ↓reduceIte, reduceCtorEq, ← decide_not, okind, vpre, vpure, intBin, intPre, strBin, strPre, popTo, argSlots, fldV, fldAV, subCells, idxVV, idxAAV, idxSV, sliceV, sliceSV, boundV, szIs, storeOp, storeS, setRowV, eff, extV, buildV, splice, eqSV, fitsL, eqCells, eqCell, minmaxV, capV, binBV, nilCheckV, bytesV, V.cells, V.stays, Orc.nothing, hv5, h6, h7, len_encS, q1, r1])
        refine ⟨_, σ, hsub, Wk.tup (vs' := [.sl 4 [], vI (i + 1 : Nat), vI 1]) ⟨Wk.nils 4, Wk.refl hsub _, Wk.refl hsub _, trivial⟩, ?_, rfl⟩
        rw [hp, hstep, hnot h4]; simp [preE, rdV]
    · have hlt' : ((i : Int) < (L.length : Int) - 1) = False := eq_false (by omega)
      have hil : i = L.length - 1 := by omega
      have hidx := idx_encS (σ := σ') (l := L) (i := i) (by omega)
      have e1 : (L.length : Int) - 1 = (i : Int) := by omega
      have hdr : L.drop i = [L[i]'(by omega)] := by rw [List.drop_eq_getElem_cons (by omega), List.drop_eq_nil_of_le (by omega)]
      rw [hdr] at hp
      generalize L[i]'(by omega) = p at *
      rw [e1] at hlt' r0
      by_cases hnil : p = []
      · have q2 : (p ≠ []) = False := by simp [hnil]
        (refine Runs.of_step Orc.nothing 300 ?_; simp -implicitDefEqProofs only [BB, Int.reduceEq, Int.reduceNe, Int.reduceLT, Int.reduceLE, Int.reduceGT, Int.reduceGE, Nat.reduceEqDiff, Nat.reduceAdd, Nat.reduceMul, Nat.reduceLeDiff, Nat.reduceSub, Nat.reduceLT, Nat.reduceBEq, ↓reduceIte, reduceCtorEq, ← decide_not, okind, vpre, vpure, intBin, intPre, strBin, strPre, popTo, argSlots, fldV, fldAV, subCells, idxVV, idxAAV, idxSV, sliceV, sliceSV, boundV, szIs, storeOp, storeS, setRowV, eff, extV, buildV, splice, eqSV, fitsL, eqCells, eqCell, minmaxV, capV, binBV, nilCheckV, bytesV, V.cells, V.stays, Orc.nothing, hv5, h6, h7, len_encS, hlt', e1, r0, hidx, loadV_rp_str, q2])
        have hr : rdL L 0 = .ok d := by rw [hp, hnil]; simp [rdL, preE]
        rw [hr]
        refine ⟨_, σ, hsub, Wk.tup (vs' := [.sl 4 (d.map encF), vI 0, vI 0]) ⟨hout.wk (SubStore.refl σ) hsub, Wk.refl hsub _, Wk.refl hsub _, trivial⟩, rfl, rfl⟩
      · have q2 : (p ≠ []) = True := by simp [hnil]
        (refine Runs.of_step Orc.nothing 300 ?_; simp -implicitDefEqProofs only [BB, Int.reduceEq, Int.reduceNe, Int.reduceLT, Int.reduceLE, Int.reduceGT, Int.reduceGE, Nat.reduceEqDiff, Nat.reduceAdd, Nat.reduceMul, Nat.reduceLeDiff, Nat.reduceSub, Nat.reduceLT, Nat.reduceBEq, ↓reduceIte, reduceCtorEq, ← decide_not, okind, vpre, vpure, intBin, intPre, strBin, strPre, popTo, argSlots, fldV, fldAV, subCells, idxVV, idxAAV, idxSV, sliceV, sliceSV, boundV, szIs, storeOp, storeS, setRowV, eff, extV, buildV, splice, eqSV, fitsL, eqCells, eqCell, minmaxV, capV, binBV, nilCheckV, bytesV, V.cells, V.stays, Orc.nothing, hv5, h6, h7, len_encS, hlt', e1, r0, hidx, loadV_rp_str, q2])
        have hr : rdL L 0 = .error (i + 1) := by rw [hp]; simp [rdL, preE, hnil]
        rw [hr]
        refine ⟨_, σ, hsub, Wk.tup (vs' := [.sl 4 [], vI (i + 1 : Nat), vI 1]) ⟨Wk.nils 4, ?_, Wk.refl hsub _, trivial⟩, rfl, rfl⟩
        have e2 : (L.length : Int) = ((i + 1 : Nat) : Int) := by omega
        rw [e2]
        exact Wk.refl hsub _
end Go.Vc
namespace Go.Vc
open Go.Proofs
theorem addI_snoc (l : List Int) (x : Int) : addI (l ++ [x]) = clampI (addI l + clampI x) := by rw [addI, List.foldl_append]; rfl
theorem add28_c (l : List Int) (hl : l.length ≤ 1000000000) : PFun Tryd.prog 28 [encI l] (vI (addI l)) := fun σ => by
  refine Contract.of_runs Tryd.func28 e28 k28 (by simp [c28]) ?_
  refine Runs.mix 5 ?_
  (refine Runs.of_step Orc.nothing 300 ?_; simp -implicitDefEqProofs only [BB, effR_some, effD_some, Int.reduceEq, Int.reduceNe, Int.reduceLT, Int.reduceLE, Int.reduceGT, Int.reduceGE, Nat.reduceEqDiff, Nat.reduceAdd, Nat.reduceMul, Nat.reduceLeDiff, Nat.reduceSub, Nat.reduceLT, Nat.reduceBEq, ↓reduceIte, reduceCtorEq, ← decide_not, okind, vpre, vpure, intBin, intPre, strBin, strPre, popTo, argSlots, fldV, fldAV, subCells, idxVV, idxAAV, idxSV, sliceV, sliceSV, boundV, szIs, storeOp, storeS, setRowV, eff, extV, buildV, splice, eqSV, fitsL, eqCells, eqCell, minmaxV, capV, binBV, nilCheckV, bytesV, V.cells, V.stays, Orc.nothing, c28, len_encI])
  refine Runs.loop (fun m st => ∃ i : Nat, i ≤ l.length ∧ m = l.length - i ∧ st.σ = σ ∧ st.s 0 = encI l ∧ st.s 4 = vI i ∧ st.s 3 = vI (addI (l.take i))) l.length ?_ ?_
  · exact ⟨0, by omega, by omega, rfl, rfl, rfl, by simp [addI, mix, putO]⟩
  · rintro m ⟨s', σ'⟩ ⟨i, hi, rfl, hσ, h0, h4, h3⟩
    simp only at hσ h0 h4 h3
    subst hσ
    refine Runs.mix 5 ?_
    by_cases hlt : i < l.length
    · have hlt' : ((i : Int) < (l.length : Int)) = True := by simp; omega
      have hidx := idx_encI (σ := σ') hlt
      have hin : inR .i64 ((i : Int) + 1) := inR_i64 (by omega) (by omega)
      have htk : l.take (i + 1) = l.take i ++ [l[i]] := by rw [List.take_add_one, List.getElem?_eq_getElem hlt]; rfl
      have hr := addI_range (l.take i)
      have hr2 := clamp_range l[i]
      have hsn := addI_snoc (l.take i) l[i]
      rw [← htk] at hsn
      generalize l[i] = x at *
      generalize addI (l.take i) = S at *
      have r1 : inR .i64 (S + clampI x) := inR_i64 (by omega) (by omega)
      (refine Runs.of_step Orc.nothing 300 ?_; simp -implicitDefEqProofs only [BB, Int.reduceEq, Int.reduceNe, Int.reduceLT, Int.reduceLE, Int.reduceGT, Int.reduceGE, Nat.reduceEqDiff, Nat.reduceAdd, Nat.reduceMul, Nat.reduceLeDiff, Nat.reduceSub, Nat.reduceLT, Nat.reduceBEq, ↓reduceIte, reduceCtorEq, ← decide_not, okind, vpre, vpure, intBin, intPre, strBin, strPre, popTo, argSlots, fldV, fldAV, subCells, idxVV, idxAAV, idxSV, sliceV, sliceSV, boundV, szIs, storeOp, storeS, setRowV, eff, extV, buildV, splice, eqSV, fitsL, eqCells, eqCell, minmaxV, capV, binBV, nilCheckV, bytesV, V.cells, V.stays, Orc.nothing, h0, h4, h3, len_encI, hlt', hidx, loadV_rp_int])
      refine Runs.pcall rfl rfl rfl (clamp37_c x _) ?_
      (refine Runs.of_step Orc.nothing 300 ?_; simp -implicitDefEqProofs only [BB, Int.reduceEq, Int.reduceNe, Int.reduceLT, Int.reduceLE, Int.reduceGT, Int.reduceGE, Nat.reduceEqDiff, Nat.reduceAdd, Nat.reduceMul, Nat.reduceLeDiff, Nat.reduceSub, Nat.reduceLT, Nat.reduceBEq, ↓reduceIte, reduceCtorEq, ← decide_not, okind, vpre, vpure, intBin, intPre, strBin, strPre, popTo, argSlots, fldV, fldAV, subCells, idxVV, idxAAV, idxSV, sliceV, sliceSV, boundV, szIs, storeOp, storeS, setRowV, eff, extV, buildV, splice, eqSV, fitsL, eqCells, eqCell, minmaxV, capV, binBV, nilCheckV, bytesV, V.cells, V.stays, Orc.nothing, h0, h4, h3, r1])
      refine Runs.pcall rfl rfl rfl (clamp37_c (S + clampI x) _) ?_
      (refine Runs.of_step Orc.nothing 300 ?_; simp -implicitDefEqProofs only [BB, Int.reduceEq, Int.reduceNe, Int.reduceLT, Int.reduceLE, Int.reduceGT, Int.reduceGE, Nat.reduceEqDiff, Nat.reduceAdd, Nat.reduceMul, Nat.reduceLeDiff, Nat.reduceSub, Nat.reduceLT, Nat.reduceBEq, ↓reduceIte, reduceCtorEq, ← decide_not, okind, vpre, vpure, intBin, intPre, strBin, strPre, popTo, argSlots, fldV, fldAV, subCells, idxVV, idxAAV, idxSV, sliceV, sliceSV, boundV, szIs, storeOp, storeS, setRowV, eff, extV, buildV, splice, eqSV, fitsL, eqCells, eqCell, minmaxV, capV, binBV, nilCheckV, bytesV, V.cells, V.stays, Orc.nothing, h0, h4, h3, hin])
      exact ⟨_, by omega, i + 1, by omega, rfl, by simp [h0, hsn]⟩
    · have hlt' : ((i : Int) < (l.length : Int)) = False := by simp; omega
      (refine Runs.of_step Orc.nothing 300 ?_; simp -implicitDefEqProofs only [BB, Int.reduceEq, Int.reduceNe, Int.reduceLT, Int.reduceLE, Int.reduceGT, Int.reduceGE, Nat.reduceEqDiff, Nat.reduceAdd, Nat.reduceMul, Nat.reduceLeDiff, Nat.reduceSub, Nat.reduceLT, Nat.reduceBEq, ↓reduceIte, reduceCtorEq, ← decide_not, okind, vpre, vpure, intBin, intPre, strBin, strPre, popTo, argSlots, fldV, fldAV, subCells, idxVV, idxAAV, idxSV, sliceV, sliceSV, boundV, szIs, storeOp, storeS, setRowV, eff, extV, buildV, splice, eqSV, fitsL, eqCells, eqCell, minmaxV, capV, binBV, nilCheckV, bytesV, V.cells, V.stays, Orc.nothing, h0, h4, h3, len_encI, hlt'])
      exact RetV.same (by rw [List.take_of_length_le (by omega)])
theorem addI_two' {a b : Int} (ha : -1099511627776 ≤ a ∧ a ≤ 1099511627776) : addI [a, b] = clampI (a + clampI b) := by
  simp only [addI, List.foldl_cons, List.foldl_nil]
  have e : clampI a = a := clamp_self.2 ha
  rw [e, Int.zero_add, e]
/-- what holds of the sum of the first ones -/
def InvM (l : List Fl) (i : Nat) (m : Sm) : Prop :=
  m.pages = i ∧ (0 ≤ m.blank ∧ m.blank ≤ i) ∧ m.used = addI ((l.take i).map (·.used)) ∧ m.free = addI ((l.take i).map (·.free)) ∧
  (m.full < 0 ∨ ∃ f : Nat, ∃ h : f < l.length, f < i ∧ m.full = f ∧ m.most = l[f].used) ∧ (m.empt < 0 ∨ ∃ f : Nat, ∃ h : f < l.length, f < i ∧ m.empt = f ∧ m.least = l[f].used)
theorem invM (l : List Fl) : ∀ i, i ≤ l.length → InvM l i (sumM 0 sm0 (l.take i)) := by
  intro i
  induction i with
  | zero => intro _; refine ⟨rfl, ⟨by simp [sumM, sm0], by simp [sumM, sm0]⟩, rfl, rfl, .inl (by simp [sumM, sm0]), .inl (by simp [sumM, sm0])⟩
  | succ i ih =>
    intro hi
    have hlt : i < l.length := by omega
    obtain ⟨h1, h2, h3, h4, h5, h6⟩ := ih (by omega)
    have htk : l.take (i + 1) = l.take i ++ [l[i]] := by rw [List.take_add_one, List.getElem?_eq_getElem hlt]; rfl
    have hsn : sumM 0 sm0 (l.take (i + 1)) = putM (sumM 0 sm0 (l.take i)) i l[i] := by
      rw [htk, sumM_snoc, List.length_take, show 0 + min i l.length = i by omega]
    rw [hsn]
    generalize sumM 0 sm0 (l.take i) = m at *
    have hu : addI [m.used, l[i].used] = addI ((l.take (i + 1)).map (·.used)) := by
      rw [htk, List.map_append, List.map_cons, List.map_nil, addI_snoc, ← h3]
      exact addI_two' (by rw [h3]; exact addI_range _)
    have hf : addI [m.free, l[i].free] = addI ((l.take (i + 1)).map (·.free)) := by
      rw [htk, List.map_append, List.map_cons, List.map_nil, addI_snoc, ← h4]
      exact addI_two' (by rw [h4]; exact addI_range _)
    have w5 : m.full < 0 ∨ ∃ f : Nat, ∃ h : f < l.length, f < i + 1 ∧ m.full = f ∧ m.most = l[f].used := h5.imp id fun ⟨f, h, a, b⟩ => ⟨f, h, by omega, b⟩
    have w6 : m.empt < 0 ∨ ∃ f : Nat, ∃ h : f < l.length, f < i + 1 ∧ m.empt = f ∧ m.least = l[f].used := h6.imp id fun ⟨f, h, a, b⟩ => ⟨f, h, by omega, b⟩
    unfold InvM putM
    split
    · simp only [putA]
      exact ⟨by omega, by omega, hu, hf, w5, w6⟩
    · unfold putC putB putA
      (repeat' split)
      all_goals simp only
      all_goals refine ⟨by omega, by omega, hu, hf, ?_, ?_⟩
      all_goals first
        | exact w5
        | exact w6
        | exact .inr ⟨i, hlt, by omega, rfl, rfl⟩
/-- no row is both's -/
def Apart (v u : V) : Prop := ∀ a n b m, v = .own a 0 n → u = .own b 0 m → a ≠ b
theorem Apart.symm {v u : V} (h : Apart v u) : Apart u v := fun a n b m h1 h2 e => h b m a n h2 h1 e.symm
theorem OutV.dst2 {K σ : Store} {e sz : Nat} {v u : V} {rows rowsU : List V} (h : OutV K σ e sz v rows) (hu : OutV K σ e sz u rowsU) (hap : Apart v u) {σ1 : Store} (hs : SubStore σ σ1) :
    ∃ idA, dstRows σ1 e sz v = some (rows, idA) ∧ ∀ σ2, SubStore σ1 σ2 → (∀ K', SubStore K' K → SubStore K' σ2 → SubStore K' (delO σ2 idA)) ∧ OutV K (delO σ2 idA) e sz u rowsU := by
  rcases h with ⟨rfl, rfl⟩ | ⟨id, rfl, ho, hk⟩
  · exact ⟨none, rfl, fun σ2 h2 => ⟨fun _ _ h => h, hu.mono (hs.trans h2)⟩⟩
  · refine ⟨some id, ?_, fun σ2 h2 => ⟨fun K' hK h => h.delK (hK.none hk), ?_⟩⟩
    · simp only [dstRows, hs _ _ ho]
      rw [if_pos ⟨trivial, trivial, trivial, Nat.le_refl _⟩, List.take_length]
    · rcases hu with h | ⟨b, rfl, h1, h3⟩
      · exact .inl h
      · refine .inr ⟨b, rfl, ?_, h3⟩
        have hne := hap id _ b _ rfl rfl
        simp only [delO]
        rw [del_ne (fun e => hne e.symm)]
        exact h2 _ _ (hs _ _ h1)
theorem Apart.new {σ K : Store} {e sz id n : Nat} {u : V} {rows : List V} (hu : OutV K σ e sz u rows) (h : σ id = none) : Apart (.own id 0 n) u := by
  rintro a k b m h1 rfl e
  cases h1
  subst e
  rcases hu with ⟨h, _⟩ | ⟨i, h, h2, _⟩
  · cases h
  · cases h; rw [h] at h2; cases h2
set_option maxRecDepth 100000 in
theorem sum12_c (l : List Fl) (hl : l.length ≤ 1000) : PFun Tryd.prog 12 [encFl l] (encU (sumM 0 sm0 l)) := fun σ => by
  refine Contract.of_runs Tryd.func12 e12 k12 (by simp [c12]) ?_
  refine Runs.mix 7 ?_
  (refine Runs.of_step Orc.nothing 300 ?_; simp -implicitDefEqProofs only [BB, Int.reduceEq, Int.reduceNe, Int.reduceLT, Int.reduceLE, Int.reduceGT, Int.reduceGE, Nat.reduceEqDiff, Nat.reduceAdd, Nat.reduceMul, Nat.reduceLeDiff, Nat.reduceSub, Nat.reduceLT, Nat.reduceBEq, ↓reduceIte, reduceCtorEq, ← decide_not, okind, vpre, vpure, intBin, intPre, strBin, strPre, popTo, argSlots, fldV, fldAV, subCells, idxVV, idxAAV, idxSV, sliceV, sliceSV, boundV, szIs, storeOp, storeS, setRowV, eff, extV, buildV, splice, eqSV, fitsL, eqCells, eqCell, minmaxV, capV, binBV, nilCheckV, bytesV, V.cells, V.stays, Orc.nothing, c12, len_encFl])
  refine effR_new fun id2 σ1 s1 a2 f2 => ?_
  simp -implicitDefEqProofs only [BB, Int.reduceEq, Int.reduceNe, Int.reduceLT, Int.reduceLE, Int.reduceGT, Int.reduceGE, Nat.reduceEqDiff, Nat.reduceAdd, Nat.reduceMul, Nat.reduceLeDiff, Nat.reduceSub, Nat.reduceLT, Nat.reduceBEq, ↓reduceIte, reduceCtorEq, ← decide_not, okind, vpre, vpure, intBin, intPre, strBin, strPre, popTo, argSlots, fldV, fldAV, subCells, idxVV, idxAAV, idxSV, sliceV, sliceSV, boundV, szIs, storeOp, storeS, setRowV, eff, extV, buildV, splice, eqSV, fitsL, eqCells, eqCell, minmaxV, capV, binBV, nilCheckV, bytesV, V.cells, V.stays, len_encFl]
  refine effR_new fun id3 σ2 s2 a3 f3 => ?_
  have n23 : id2 ≠ id3 := ne_new a2 f3
  have z3 : σ id3 = none := s1.none f3
  have b2 := s2 _ _ a2
  obtain ⟨K, hKd⟩ : ∃ K : Sm → Store, K = fun m => upd (upd σ id2 ⟨27, 6, [.agg [vI 0, vI 0, vI 0, vI 0, vI 0, vI 0]]⟩) id3 ⟨27, 6, [.agg [vI l.length, vI m.blank, vI 0, vI 0, vI m.full, vI m.empt]]⟩ := ⟨_, rfl⟩
  have hK2 : ∀ m, K m id2 = some ⟨27, 6, [.agg [vI 0, vI 0, vI 0, vI 0, vI 0, vI 0]]⟩ := fun m => by rw [hKd]; exact (upd_ne n23).trans upd_same
  have hK3 : ∀ m, K m id3 = some ⟨27, 6, [.agg [vI l.length, vI m.blank, vI 0, vI 0, vI m.full, vI m.empt]]⟩ := fun m => by rw [hKd]; exact upd_same
  have hKσ : ∀ m, SubStore σ (K m) := fun m => by rw [hKd]; exact ((SubStore.refl σ).upd_new f2).trans (((SubStore.refl _).upd_new (by rw [upd_ne n23.symm]; exact z3)))
  have hKn : ∀ m m' i, K m i = none → K m' i = none := fun m m' i h => by
    rw [hKd] at h ⊢
    simp only [Vc.upd] at h ⊢
    split at h
    · cases h
    · rename_i h1; rw [if_neg h1]; exact h
  have hKu : ∀ m m' σ', SubStore (K m) σ' → SubStore (K m') (upd σ' id3 ⟨27, 6, [.agg [vI l.length, vI m'.blank, vI 0, vI 0, vI m'.full, vI m'.empt]]⟩) := fun m m' σ' h i o ho => by
    by_cases e : i = id3
    · subst e; rw [hK3] at ho; rw [upd_same]; exact ho
    · rw [upd_ne e]
      refine h i o ?_
      rw [hKd] at ho ⊢
      simp only [upd_ne e] at ho ⊢
      exact ho
  have hOu : ∀ m m' σ' v rows, OutV (K m) σ' 3 1 v rows → OutV (K m') (upd σ' id3 ⟨27, 6, [.agg [vI l.length, vI m'.blank, vI 0, vI 0, vI m'.full, vI m'.empt]]⟩) 3 1 v rows := fun m m' σ' v rows h => by
    rcases h with h | ⟨i, h1, h2, h3⟩
    · exact .inl h
    · refine .inr ⟨i, h1, ?_, hKn _ _ _ h3⟩
      have : i ≠ id3 := fun e => by rw [e, hK3] at h3; cases h3
      rw [upd_ne this]; exact h2
  have hOg : ∀ m σ' v rows o, OutV (K m) σ' 3 1 v rows → OutV (K m) (upd σ' id3 o) 3 1 v rows := fun m σ' v rows o h => by
    rcases h with h | ⟨i, h1, h2, h3⟩
    · exact .inl h
    · refine .inr ⟨i, h1, ?_, h3⟩
      have : i ≠ id3 := fun e => by rw [e, hK3] at h3; cases h3
      rw [upd_ne this]; exact h2
  have hK0 : SubStore (K sm0) (upd σ2 id3 ⟨27, 6, [.agg [vI l.length, vI 0, vI 0, vI 0, vI (-1), vI (-1)]]⟩) := by
    rw [hKd]
    refine SubStore.upd2 (fun i o ho => ?_)
    by_cases e : i = id2
    · subst e; rw [upd_same] at ho; cases ho; exact b2
    · rw [upd_ne e] at ho; exact s2 _ _ (s1 _ _ ho)
  simp -implicitDefEqProofs only [BB, Int.reduceEq, Int.reduceNe, Int.reduceLT, Int.reduceLE, Int.reduceGT, Int.reduceGE, Nat.reduceEqDiff, Nat.reduceAdd, Nat.reduceMul, Nat.reduceLeDiff, Nat.reduceSub, Nat.reduceLT, Nat.reduceBEq, ↓reduceIte, reduceCtorEq, ← decide_not, okind, vpre, vpure, intBin, intPre, strBin, strPre, popTo, argSlots, fldV, fldAV, subCells, idxVV, idxAAV, idxSV, sliceV, sliceSV, boundV, szIs, storeOp, storeS, setRowV, eff, extV, buildV, splice, eqSV, fitsL, eqCells, eqCell, minmaxV, capV, binBV, nilCheckV, bytesV, V.cells, V.stays, a3, len_encFl]
  refine Runs.loop (fun m st => ∃ i : Nat, i ≤ l.length ∧ m = l.length - i ∧ SubStore (K (sumM 0 sm0 (l.take i))) st.σ ∧ Apart (st.s 4) (st.s 5) ∧
    OutV (K (sumM 0 sm0 (l.take i))) st.σ 3 1 (st.s 4) (((l.take i).map (·.used)).map vI) ∧ OutV (K (sumM 0 sm0 (l.take i))) st.σ 3 1 (st.s 5) (((l.take i).map (·.free)).map vI) ∧
    st.s 0 = encFl l ∧ st.s 2 = .ptr id2 0 0 ∧ st.s 3 = .ptr id3 0 0 ∧ st.s 6 = vI i) l.length ?_ ?_
  · exact ⟨0, by omega, by omega, hK0, fun a n b m h => (by cases h), OutV.start, OutV.start, rfl, rfl, rfl, rfl⟩
  · rintro m ⟨s', σ'⟩ ⟨i, hi, rfl, hsub, hap, o4, o5, h0, h2, h3, h6⟩
    simp only at hsub hap o4 o5 h0 h2 h3 h6
    generalize hv4 : s' 4 = v4 at *
    generalize hv5 : s' 5 = v5 at *
    obtain ⟨i1, i2, i3, i4, i5, i6⟩ := invM l i hi
    refine Runs.mix 7 ?_
    by_cases hlt : i < l.length
    · have hlt' : ((i : Int) < (l.length : Int)) = True := eq_true (by omega)
      have hix : ∀ σ, idxAV σ 4 (encFl l) (vI i) = some (.rp (encF l[i])) := fun σ => idx_encFl hlt
      have htk : l.take (i + 1) = l.take i ++ [l[i]] := by rw [List.take_add_one, List.getElem?_eq_getElem hlt]; rfl
      have hsn : sumM 0 sm0 (l.take (i + 1)) = putM (sumM 0 sm0 (l.take i)) i l[i] := by
        rw [htk, sumM_snoc, List.length_take, show 0 + min i l.length = i by omega]
      have htl : (l.take i).length = i := by simp; omega
      have hb2 : (i + 1) * 9 ≤ 140737488355328 := by omega
      have r1 : inR .i64 ((i : Int) + 1) := inR_i64 (by omega) (by omega)
      generalize hx : l[i] = x at *
      generalize sumM 0 sm0 (l.take i) = M at *
      (refine Runs.of_step Orc.nothing 300 ?_; simp -implicitDefEqProofs only [BB, Int.reduceEq, Int.reduceNe, Int.reduceLT, Int.reduceLE, Int.reduceGT, Int.reduceGE, Nat.reduceEqDiff, Nat.reduceAdd, Nat.reduceMul, Nat.reduceLeDiff, Nat.reduceSub, Nat.reduceLT, Nat.reduceBEq, ↓reduceIte, reduceCtorEq, ← decide_not, okind, vpre, vpure, intBin, intPre, strBin, strPre, popTo, argSlots, fldV, fldAV, subCells, idxVV, idxAAV, idxSV, sliceV, sliceSV, boundV, szIs, storeOp, storeS, setRowV, eff, extV, buildV, splice, eqSV, fitsL, eqCells, eqCell, minmaxV, capV, binBV, nilCheckV, bytesV, V.cells, V.stays, Orc.nothing, h0, h2, h3, h6, hv4, hv5, len_encFl, hlt', hix, encF])
      refine effR_new fun id22 σ5 s5 a22 f22 => ?_
      obtain ⟨idA, hda, hdel⟩ := o4.dst2 o5 hap s5
      simp -implicitDefEqProofs only [BB, Int.reduceEq, Int.reduceNe, Int.reduceLT, Int.reduceLE, Int.reduceGT, Int.reduceGE, Nat.reduceEqDiff, Nat.reduceAdd, Nat.reduceMul, Nat.reduceLeDiff, Nat.reduceSub, Nat.reduceLT, Nat.reduceBEq, ↓reduceIte, reduceCtorEq, ← decide_not, okind, vpre, vpure, intBin, intPre, strBin, strPre, popTo, argSlots, fldV, fldAV, subCells, idxVV, idxAAV, idxSV, sliceV, sliceSV, boundV, szIs, storeOp, storeS, setRowV, eff, extV, buildV, splice, eqSV, fitsL, eqCells, eqCell, minmaxV, capV, binBV, nilCheckV, bytesV, V.cells, V.stays, h0, h2, h3, h6, hv4, hv5, hda, srcOne a22, List.length_map, htl, hb2]
      refine effR_put fun id23 σ6 s6 a23 f23 => ?_
      obtain ⟨hd1, hd2⟩ := hdel σ5 (SubStore.refl _)
      have k6 : SubStore (K M) σ6 := (hd1 _ (SubStore.refl _) (hsub.trans s5)).trans s6
      have o5' := hd2.mono s6
      have o4' : OutV (K M) σ6 3 1 (.own id23 0 (i + 1)) (((l.take (i + 1)).map (·.used)).map vI) := OutV.new (by simp; omega) (by rw [a23, htk]; simp) ((hsub.trans s5).none f23)
      have hap' : Apart v5 (.own id23 0 (i + 1)) := (Apart.new (o5.mono s5) f23).symm
      simp -implicitDefEqProofs only [BB, Int.reduceEq, Int.reduceNe, Int.reduceLT, Int.reduceLE, Int.reduceGT, Int.reduceGE, Nat.reduceEqDiff, Nat.reduceAdd, Nat.reduceMul, Nat.reduceLeDiff, Nat.reduceSub, Nat.reduceLT, Nat.reduceBEq, ↓reduceIte, reduceCtorEq, ← decide_not, okind, vpre, vpure, intBin, intPre, strBin, strPre, popTo, argSlots, fldV, fldAV, subCells, idxVV, idxAAV, idxSV, sliceV, sliceSV, boundV, szIs, storeOp, storeS, setRowV, eff, extV, buildV, splice, eqSV, fitsL, eqCells, eqCell, minmaxV, capV, binBV, nilCheckV, bytesV, V.cells, V.stays, h0, h2, h3, h6, hv5, hix, encF]
      refine effR_new fun id30 σ7 s7 a30 f30 => ?_
      obtain ⟨idB, hdb, hdelb⟩ := o5'.dst2 o4' hap' s7
      simp -implicitDefEqProofs only [BB, Int.reduceEq, Int.reduceNe, Int.reduceLT, Int.reduceLE, Int.reduceGT, Int.reduceGE, Nat.reduceEqDiff, Nat.reduceAdd, Nat.reduceMul, Nat.reduceLeDiff, Nat.reduceSub, Nat.reduceLT, Nat.reduceBEq, ↓reduceIte, reduceCtorEq, ← decide_not, okind, vpre, vpure, intBin, intPre, strBin, strPre, popTo, argSlots, fldV, fldAV, subCells, idxVV, idxAAV, idxSV, sliceV, sliceSV, boundV, szIs, storeOp, storeS, setRowV, eff, extV, buildV, splice, eqSV, fitsL, eqCells, eqCell, minmaxV, capV, binBV, nilCheckV, bytesV, V.cells, V.stays, h0, h2, h3, h6, hv5, hdb, srcOne a30, List.length_map, htl, hb2]
      refine effR_put fun id31 σ8 s8 a31 f31 => ?_
      obtain ⟨he1, he2⟩ := hdelb σ7 (SubStore.refl _)
      have k8 : SubStore (K M) σ8 := (he1 _ (SubStore.refl _) (k6.trans s7)).trans s8
      have p4 := he2.mono s8
      have p5 : OutV (K M) σ8 3 1 (.own id31 0 (i + 1)) (((l.take (i + 1)).map (·.free)).map vI) := OutV.new (by simp; omega) (by rw [a31, htk]; simp) ((k6.trans s7).none f31)
      have hapz : Apart (.own id23 0 (i + 1)) (.own id31 0 (i + 1)) := (Apart.new (o4'.mono s7) f31).symm
      have g3 := k8 _ _ (hK3 M)
      have tt : (true == true) = true := rfl
      have ff : (false == false) = true := rfl
      have tf : (true == false) = false := rfl
      have ft : (false == true) = false := rfl
      by_cases hk3 : x.kind = 3
      · have k3 : (x.kind = 3) = True := eq_true hk3
        have r2 : inR .i64 (M.blank + 1) := inR_i64 (by omega) (by omega)
        have hst : putM M i x = ⟨M.pages + 1, M.blank + 1, addI [M.used, x.used], addI [M.free, x.free], M.full, M.empt, (putM M i x).most, (putM M i x).least⟩ := by
          rw [putM_full _ _ _ hk3]
        simp -implicitDefEqProofs only [BB, Int.reduceEq, Int.reduceNe, Int.reduceLT, Int.reduceLE, Int.reduceGT, Int.reduceGE, Nat.reduceEqDiff, Nat.reduceAdd, Nat.reduceMul, Nat.reduceLeDiff, Nat.reduceSub, Nat.reduceLT, Nat.reduceBEq, ↓reduceIte, reduceCtorEq, ← decide_not, okind, vpre, vpure, intBin, intPre, strBin, strPre, popTo, argSlots, fldV, fldAV, subCells, idxVV, idxAAV, idxSV, sliceV, sliceSV, boundV, szIs, storeOp, storeS, setRowV, eff, extV, buildV, splice, eqSV, fitsL, eqCells, eqCell, minmaxV, capV, binBV, nilCheckV, bytesV, V.cells, V.stays, h0, h2, h3, h6, hix, encF, g3, upd_same, upd_upd, r1, tt, ff, tf, ft, loadV_rp_int, k3, r2]
        refine ⟨_, ?_, i + 1, by omega, rfl, ?_, hapz, ?_, ?_, by simp [h0, h2, h3]⟩
        · omega
        · rw [hsn, hst]; exact hKu M ⟨M.pages + 1, M.blank + 1, addI [M.used, x.used], addI [M.free, x.free], M.full, M.empt, (putM M i x).most, (putM M i x).least⟩ _ k8
        · rw [hsn, hst]; exact hOu M ⟨M.pages + 1, M.blank + 1, addI [M.used, x.used], addI [M.free, x.free], M.full, M.empt, (putM M i x).most, (putM M i x).least⟩ _ _ _ p4
        · rw [hsn, hst]; exact hOu M ⟨M.pages + 1, M.blank + 1, addI [M.used, x.used], addI [M.free, x.free], M.full, M.empt, (putM M i x).most, (putM M i x).least⟩ _ _ _ p5
      · have k3 : (x.kind = 3) = False := eq_false hk3
        have HF : M.full < 0 ∨ (∃ f : Nat, ∃ h : f < l.length, ¬ M.full < 0 ∧ M.full = f ∧ M.most = l[f].used ∧ x.used > l[f].used) ∨ (∃ f : Nat, ∃ h : f < l.length, ¬ M.full < 0 ∧ M.full = f ∧ M.most = l[f].used ∧ ¬ x.used > l[f].used) := by
          rcases i5 with h | ⟨f, h, _, a, b⟩
          · exact .inl h
          · by_cases c : x.used > l[f].used
            · exact .inr (.inl ⟨f, h, by omega, a, b, c⟩)
            · exact .inr (.inr ⟨f, h, by omega, a, b, c⟩)
        have HE : M.empt < 0 ∨ (∃ f : Nat, ∃ h : f < l.length, ¬ M.empt < 0 ∧ M.empt = f ∧ M.least = l[f].used ∧ x.used < l[f].used) ∨ (∃ f : Nat, ∃ h : f < l.length, ¬ M.empt < 0 ∧ M.empt = f ∧ M.least = l[f].used ∧ ¬ x.used < l[f].used) := by
          rcases i6 with h | ⟨f, h, _, a, b⟩
          · exact .inl h
          · by_cases c : x.used < l[f].used
            · exact .inr (.inl ⟨f, h, by omega, a, b, c⟩)
            · exact .inr (.inr ⟨f, h, by omega, a, b, c⟩)
        have hput := putM_other M i x hk3
        rcases HF with F1 | ⟨f, hf, F1, F2, F3, F4⟩ | ⟨f, hf, F1, F2, F3, F4⟩
        · have q1 : (M.full < 0) = True := eq_true F1
          rcases HE with E1 | ⟨e, he, E1, E2, E3, E4⟩ | ⟨e, he, E1, E2, E3, E4⟩
          · have q3 : (M.empt < 0) = True := eq_true E1
            have hst : putM M i x = ⟨M.pages + 1, M.blank, addI [M.used, x.used], addI [M.free, x.free], (i : Int), (i : Int), (putM M i x).most, (putM M i x).least⟩ := by
              rw [hput]; simp [F1, E1]
            simp -implicitDefEqProofs only [BB, Int.reduceEq, Int.reduceNe, Int.reduceLT, Int.reduceLE, Int.reduceGT, Int.reduceGE, Nat.reduceEqDiff, Nat.reduceAdd, Nat.reduceMul, Nat.reduceLeDiff, Nat.reduceSub, Nat.reduceLT, Nat.reduceBEq, ↓reduceIte, reduceCtorEq, ← decide_not, okind, vpre, vpure, intBin, intPre, strBin, strPre, popTo, argSlots, fldV, fldAV, subCells, idxVV, idxAAV, idxSV, sliceV, sliceSV, boundV, szIs, storeOp, storeS, setRowV, eff, extV, buildV, splice, eqSV, fitsL, eqCells, eqCell, minmaxV, capV, binBV, nilCheckV, bytesV, V.cells, V.stays, h0, h2, h3, h6, hix, encF, g3, upd_same, upd_upd, r1, tt, ff, tf, ft, loadV_rp_int, k3, q1, q3]
            refine ⟨_, ?_, i + 1, by omega, rfl, ?_, hapz, ?_, ?_, by simp [h0, h2, h3]⟩
            · omega
            · rw [hsn, hst]; exact hKu M ⟨M.pages + 1, M.blank, addI [M.used, x.used], addI [M.free, x.free], (i : Int), (i : Int), (putM M i x).most, (putM M i x).least⟩ _ k8
            · rw [hsn, hst]; exact hOu M ⟨M.pages + 1, M.blank, addI [M.used, x.used], addI [M.free, x.free], (i : Int), (i : Int), (putM M i x).most, (putM M i x).least⟩ _ _ _ p4
            · rw [hsn, hst]; exact hOu M ⟨M.pages + 1, M.blank, addI [M.used, x.used], addI [M.free, x.free], (i : Int), (i : Int), (putM M i x).most, (putM M i x).least⟩ _ _ _ p5
          · have q3 : (M.empt < 0) = False := eq_false E1
            have ixe : ∀ σ, idxAV σ 4 (encFl l) (vI M.empt) = some (.rp (encF l[e])) := fun σ => by rw [E2]; exact idx_encFl he
            have q4 : (x.used < l[e].used) = True := eq_true E4
            have hst : putM M i x = ⟨M.pages + 1, M.blank, addI [M.used, x.used], addI [M.free, x.free], (i : Int), (i : Int), (putM M i x).most, (putM M i x).least⟩ := by
              rw [hput]; simp [F1, E1, E3, E4]
            simp -implicitDefEqProofs only [BB, Int.reduceEq, Int.reduceNe, Int.reduceLT, Int.reduceLE, Int.reduceGT, Int.reduceGE, Nat.reduceEqDiff, Nat.reduceAdd, Nat.reduceMul, Nat.reduceLeDiff, Nat.reduceSub, Nat.reduceLT, Nat.reduceBEq, ↓reduceIte, reduceCtorEq, ← decide_not, okind, vpre, vpure, intBin, intPre, strBin, strPre, popTo, argSlots, fldV, fldAV, subCells, idxVV, idxAAV, idxSV, sliceV, sliceSV, boundV, szIs, storeOp, storeS, setRowV, eff, extV, buildV, splice, eqSV, fitsL, eqCells, eqCell, minmaxV, capV, binBV, nilCheckV, bytesV, V.cells, V.stays, h0, h2, h3, h6, hix, encF, g3, upd_same, upd_upd, r1, tt, ff, tf, ft, loadV_rp_int, k3, q1, q3, ixe, q4]
            refine ⟨_, ?_, i + 1, by omega, rfl, ?_, hapz, ?_, ?_, by simp [h0, h2, h3]⟩
            · omega
            · rw [hsn, hst]; exact hKu M ⟨M.pages + 1, M.blank, addI [M.used, x.used], addI [M.free, x.free], (i : Int), (i : Int), (putM M i x).most, (putM M i x).least⟩ _ k8
            · rw [hsn, hst]; exact hOu M ⟨M.pages + 1, M.blank, addI [M.used, x.used], addI [M.free, x.free], (i : Int), (i : Int), (putM M i x).most, (putM M i x).least⟩ _ _ _ p4
            · rw [hsn, hst]; exact hOu M ⟨M.pages + 1, M.blank, addI [M.used, x.used], addI [M.free, x.free], (i : Int), (i : Int), (putM M i x).most, (putM M i x).least⟩ _ _ _ p5
          · have q3 : (M.empt < 0) = False := eq_false E1
            have ixe : ∀ σ, idxAV σ 4 (encFl l) (vI M.empt) = some (.rp (encF l[e])) := fun σ => by rw [E2]; exact idx_encFl he
            have q4 : (x.used < l[e].used) = False := eq_false E4
            have hst : putM M i x = ⟨M.pages + 1, M.blank, addI [M.used, x.used], addI [M.free, x.free], (i : Int), M.empt, (putM M i x).most, (putM M i x).least⟩ := by
              rw [hput]; simp [F1, E1, E3, E4]
            simp -implicitDefEqProofs only [BB, Int.reduceEq, Int.reduceNe, Int.reduceLT, Int.reduceLE, Int.reduceGT, Int.reduceGE, Nat.reduceEqDiff, Nat.reduceAdd, Nat.reduceMul, Nat.reduceLeDiff, Nat.reduceSub, Nat.reduceLT, Nat.reduceBEq, ↓reduceIte, reduceCtorEq, ← decide_not, okind, vpre, vpure, intBin, intPre, strBin, strPre, popTo, argSlots, fldV, fldAV, subCells, idxVV, idxAAV, idxSV, sliceV, sliceSV, boundV, szIs, storeOp, storeS, setRowV, eff, extV, buildV, splice, eqSV, fitsL, eqCells, eqCell, minmaxV, capV, binBV, nilCheckV, bytesV, V.cells, V.stays, h0, h2, h3, h6, hix, encF, g3, upd_same, upd_upd, r1, tt, ff, tf, ft, loadV_rp_int, k3, q1, q3, ixe, q4]
            refine ⟨_, ?_, i + 1, by omega, rfl, ?_, hapz, ?_, ?_, by simp [h0, h2, h3]⟩
            · omega
            · rw [hsn, hst]; exact hKu M ⟨M.pages + 1, M.blank, addI [M.used, x.used], addI [M.free, x.free], (i : Int), M.empt, (putM M i x).most, (putM M i x).least⟩ _ k8
            · rw [hsn, hst]; exact hOu M ⟨M.pages + 1, M.blank, addI [M.used, x.used], addI [M.free, x.free], (i : Int), M.empt, (putM M i x).most, (putM M i x).least⟩ _ _ _ p4
            · rw [hsn, hst]; exact hOu M ⟨M.pages + 1, M.blank, addI [M.used, x.used], addI [M.free, x.free], (i : Int), M.empt, (putM M i x).most, (putM M i x).least⟩ _ _ _ p5
        · have q1 : (M.full < 0) = False := eq_false F1
          have ixf : ∀ σ, idxAV σ 4 (encFl l) (vI M.full) = some (.rp (encF l[f])) := fun σ => by rw [F2]; exact idx_encFl hf
          have q2 : (x.used > l[f].used) = True := eq_true F4
          rcases HE with E1 | ⟨e, he, E1, E2, E3, E4⟩ | ⟨e, he, E1, E2, E3, E4⟩
          · have q3 : (M.empt < 0) = True := eq_true E1
            have hst : putM M i x = ⟨M.pages + 1, M.blank, addI [M.used, x.used], addI [M.free, x.free], (i : Int), (i : Int), (putM M i x).most, (putM M i x).least⟩ := by
              rw [hput]; simp [F1, F3, F4, E1]
            simp -implicitDefEqProofs only [BB, Int.reduceEq, Int.reduceNe, Int.reduceLT, Int.reduceLE, Int.reduceGT, Int.reduceGE, Nat.reduceEqDiff, Nat.reduceAdd, Nat.reduceMul, Nat.reduceLeDiff, Nat.reduceSub, Nat.reduceLT, Nat.reduceBEq, ↓reduceIte, reduceCtorEq, ← decide_not, okind, vpre, vpure, intBin, intPre, strBin, strPre, popTo, argSlots, fldV, fldAV, subCells, idxVV, idxAAV, idxSV, sliceV, sliceSV, boundV, szIs, storeOp, storeS, setRowV, eff, extV, buildV, splice, eqSV, fitsL, eqCells, eqCell, minmaxV, capV, binBV, nilCheckV, bytesV, V.cells, V.stays, h0, h2, h3, h6, hix, encF, g3, upd_same, upd_upd, r1, tt, ff, tf, ft, loadV_rp_int, k3, q1, ixf, q2, q3]
            refine ⟨_, ?_, i + 1, by omega, rfl, ?_, hapz, ?_, ?_, by simp [h0, h2, h3]⟩
            · omega
            · rw [hsn, hst]; exact hKu M ⟨M.pages + 1, M.blank, addI [M.used, x.used], addI [M.free, x.free], (i : Int), (i : Int), (putM M i x).most, (putM M i x).least⟩ _ k8
            · rw [hsn, hst]; exact hOu M ⟨M.pages + 1, M.blank, addI [M.used, x.used], addI [M.free, x.free], (i : Int), (i : Int), (putM M i x).most, (putM M i x).least⟩ _ _ _ p4
            · rw [hsn, hst]; exact hOu M ⟨M.pages + 1, M.blank, addI [M.used, x.used], addI [M.free, x.free], (i : Int), (i : Int), (putM M i x).most, (putM M i x).least⟩ _ _ _ p5
          · have q3 : (M.empt < 0) = False := eq_false E1
            have ixe : ∀ σ, idxAV σ 4 (encFl l) (vI M.empt) = some (.rp (encF l[e])) := fun σ => by rw [E2]; exact idx_encFl he
            have q4 : (x.used < l[e].used) = True := eq_true E4
            have hst : putM M i x = ⟨M.pages + 1, M.blank, addI [M.used, x.used], addI [M.free, x.free], (i : Int), (i : Int), (putM M i x).most, (putM M i x).least⟩ := by
              rw [hput]; simp [F1, F3, F4, E1, E3, E4]
            simp -implicitDefEqProofs only [BB, Int.reduceEq, Int.reduceNe, Int.reduceLT, Int.reduceLE, Int.reduceGT, Int.reduceGE, Nat.reduceEqDiff, Nat.reduceAdd, Nat.reduceMul, Nat.reduceLeDiff, Nat.reduceSub, Nat.reduceLT, Nat.reduceBEq, ↓reduceIte, reduceCtorEq, ← decide_not, okind, vpre, vpure, intBin, intPre, strBin, strPre, popTo, argSlots, fldV, fldAV, subCells, idxVV, idxAAV, idxSV, sliceV, sliceSV, boundV, szIs, storeOp, storeS, setRowV, eff, extV, buildV, splice, eqSV, fitsL, eqCells, eqCell, minmaxV, capV, binBV, nilCheckV, bytesV, V.cells, V.stays, h0, h2, h3, h6, hix, encF, g3, upd_same, upd_upd, r1, tt, ff, tf, ft, loadV_rp_int, k3, q1, ixf, q2, q3, ixe, q4]
            refine ⟨_, ?_, i + 1, by omega, rfl, ?_, hapz, ?_, ?_, by simp [h0, h2, h3]⟩
            · omega
            · rw [hsn, hst]; exact hKu M ⟨M.pages + 1, M.blank, addI [M.used, x.used], addI [M.free, x.free], (i : Int), (i : Int), (putM M i x).most, (putM M i x).least⟩ _ k8
            · rw [hsn, hst]; exact hOu M ⟨M.pages + 1, M.blank, addI [M.used, x.used], addI [M.free, x.free], (i : Int), (i : Int), (putM M i x).most, (putM M i x).least⟩ _ _ _ p4
            · rw [hsn, hst]; exact hOu M ⟨M.pages + 1, M.blank, addI [M.used, x.used], addI [M.free, x.free], (i : Int), (i : Int), (putM M i x).most, (putM M i x).least⟩ _ _ _ p5
          · have q3 : (M.empt < 0) = False := eq_false E1
            have ixe : ∀ σ, idxAV σ 4 (encFl l) (vI M.empt) = some (.rp (encF l[e])) := fun σ => by rw [E2]; exact idx_encFl he
            have q4 : (x.used < l[e].used) = False := eq_false E4
            have hst : putM M i x = ⟨M.pages + 1, M.blank, addI [M.used, x.used], addI [M.free, x.free], (i : Int), M.empt, (putM M i x).most, (putM M i x).least⟩ := by
              rw [hput]; simp [F1, F3, F4, E1, E3, E4]
            simp -implicitDefEqProofs only [BB, Int.reduceEq, Int.reduceNe, Int.reduceLT, Int.reduceLE, Int.reduceGT, Int.reduceGE, Nat.reduceEqDiff, Nat.reduceAdd, Nat.reduceMul, Nat.reduceLeDiff, Nat.reduceSub, Nat.reduceLT, Nat.reduceBEq, ↓reduceIte, reduceCtorEq, ← decide_not, okind, vpre, vpure, intBin, intPre, strBin, strPre, popTo, argSlots, fldV, fldAV, subCells, idxVV, idxAAV, idxSV, sliceV, sliceSV, boundV, szIs, storeOp, storeS, setRowV, eff, extV, buildV, splice, eqSV, fitsL, eqCells, eqCell, minmaxV, capV, binBV, nilCheckV, bytesV, V.cells, V.stays, h0, h2, h3, h6, hix, encF, g3, upd_same, upd_upd, r1, tt, ff, tf, ft, loadV_rp_int, k3, q1, ixf, q2, q3, ixe, q4]
            refine ⟨_, ?_, i + 1, by omega, rfl, ?_, hapz, ?_, ?_, by simp [h0, h2, h3]⟩
            · omega
            · rw [hsn, hst]; exact hKu M ⟨M.pages + 1, M.blank, addI [M.used, x.used], addI [M.free, x.free], (i : Int), M.empt, (putM M i x).most, (putM M i x).least⟩ _ k8
            · rw [hsn, hst]; exact hOu M ⟨M.pages + 1, M.blank, addI [M.used, x.used], addI [M.free, x.free], (i : Int), M.empt, (putM M i x).most, (putM M i x).least⟩ _ _ _ p4
            · rw [hsn, hst]; exact hOu M ⟨M.pages + 1, M.blank, addI [M.used, x.used], addI [M.free, x.free], (i : Int), M.empt, (putM M i x).most, (putM M i x).least⟩ _ _ _ p5
        · have q1 : (M.full < 0) = False := eq_false F1
          have ixf : ∀ σ, idxAV σ 4 (encFl l) (vI M.full) = some (.rp (encF l[f])) := fun σ => by rw [F2]; exact idx_encFl hf
          have q2 : (x.used > l[f].used) = False := eq_false F4
          rcases HE with E1 | ⟨e, he, E1, E2, E3, E4⟩ | ⟨e, he, E1, E2, E3, E4⟩
          · have q3 : (M.empt < 0) = True := eq_true E1
            have hst : putM M i x = ⟨M.pages + 1, M.blank, addI [M.used, x.used], addI [M.free, x.free], M.full, (i : Int), (putM M i x).most, (putM M i x).least⟩ := by
              rw [hput]; simp [F1, F3, F4, E1]
            simp -implicitDefEqProofs only [BB, Int.reduceEq, Int.reduceNe, Int.reduceLT, Int.reduceLE, Int.reduceGT, Int.reduceGE, Nat.reduceEqDiff, Nat.reduceAdd, Nat.reduceMul, Nat.reduceLeDiff, Nat.reduceSub, Nat.reduceLT, Nat.reduceBEq, ↓reduceIte, reduceCtorEq, ← decide_not, okind, vpre, vpure, intBin, intPre, strBin, strPre, popTo, argSlots, fldV, fldAV, subCells, idxVV, idxAAV, idxSV, sliceV, sliceSV, boundV, szIs, storeOp, storeS, setRowV, eff, extV, buildV, splice, eqSV, fitsL, eqCells, eqCell, minmaxV, capV, binBV, nilCheckV, bytesV, V.cells, V.stays, h0, h2, h3, h6, hix, encF, g3, upd_same, upd_upd, r1, tt, ff, tf, ft, loadV_rp_int, k3, q1, ixf, q2, q3]
            refine ⟨_, ?_, i + 1, by omega, rfl, ?_, hapz, ?_, ?_, by simp [h0, h2, h3]⟩
            · omega
            · rw [hsn, hst]; exact hKu M ⟨M.pages + 1, M.blank, addI [M.used, x.used], addI [M.free, x.free], M.full, (i : Int), (putM M i x).most, (putM M i x).least⟩ _ k8
            · rw [hsn, hst]; exact hOu M ⟨M.pages + 1, M.blank, addI [M.used, x.used], addI [M.free, x.free], M.full, (i : Int), (putM M i x).most, (putM M i x).least⟩ _ _ _ p4
            · rw [hsn, hst]; exact hOu M ⟨M.pages + 1, M.blank, addI [M.used, x.used], addI [M.free, x.free], M.full, (i : Int), (putM M i x).most, (putM M i x).least⟩ _ _ _ p5
          · have q3 : (M.empt < 0) = False := eq_false E1
            have ixe : ∀ σ, idxAV σ 4 (encFl l) (vI M.empt) = some (.rp (encF l[e])) := fun σ => by rw [E2]; exact idx_encFl he
            have q4 : (x.used < l[e].used) = True := eq_true E4
            have hst : putM M i x = ⟨M.pages + 1, M.blank, addI [M.used, x.used], addI [M.free, x.free], M.full, (i : Int), (putM M i x).most, (putM M i x).least⟩ := by
              rw [hput]; simp [F1, F3, F4, E1, E3, E4]
            simp -implicitDefEqProofs only [BB, Int.reduceEq, Int.reduceNe, Int.reduceLT, Int.reduceLE, Int.reduceGT, Int.reduceGE, Nat.reduceEqDiff, Nat.reduceAdd, Nat.reduceMul, Nat.reduceLeDiff, Nat.reduceSub, Nat.reduceLT, Nat.reduceBEq, ↓reduceIte, reduceCtorEq, ← decide_not, okind, vpre, vpure, intBin, intPre, strBin, strPre, popTo, argSlots, fldV, fldAV, subCells, idxVV, idxAAV, idxSV, sliceV, sliceSV, boundV, szIs, storeOp, storeS, setRowV, eff, extV, buildV, splice, eqSV, fitsL, eqCells, eqCell, minmaxV, capV, binBV, nilCheckV, bytesV, V.cells, V.stays, h0, h2, h3, h6, hix, encF, g3, upd_same, upd_upd, r1, tt, ff, tf, ft, loadV_rp_int, k3, q1, ixf, q2, q3, ixe, q4]
            refine ⟨_, ?_, i + 1, by omega, rfl, ?_, hapz, ?_, ?_, by simp [h0, h2, h3]⟩
            · omega
            · rw [hsn, hst]; exact hKu M ⟨M.pages + 1, M.blank, addI [M.used, x.used], addI [M.free, x.free], M.full, (i : Int), (putM M i x).most, (putM M i x).least⟩ _ k8
            · rw [hsn, hst]; exact hOu M ⟨M.pages + 1, M.blank, addI [M.used, x.used], addI [M.free, x.free], M.full, (i : Int), (putM M i x).most, (putM M i x).least⟩ _ _ _ p4
            · rw [hsn, hst]; exact hOu M ⟨M.pages + 1, M.blank, addI [M.used, x.used], addI [M.free, x.free], M.full, (i : Int), (putM M i x).most, (putM M i x).least⟩ _ _ _ p5
          · have q3 : (M.empt < 0) = False := eq_false E1
            have ixe : ∀ σ, idxAV σ 4 (encFl l) (vI M.empt) = some (.rp (encF l[e])) := fun σ => by rw [E2]; exact idx_encFl he
            have q4 : (x.used < l[e].used) = False := eq_false E4
            have hst : putM M i x = ⟨M.pages + 1, M.blank, addI [M.used, x.used], addI [M.free, x.free], M.full, M.empt, (putM M i x).most, (putM M i x).least⟩ := by
              rw [hput]; simp [F1, F3, F4, E1, E3, E4]
            simp -implicitDefEqProofs only [BB, Int.reduceEq, Int.reduceNe, Int.reduceLT, Int.reduceLE, Int.reduceGT, Int.reduceGE, Nat.reduceEqDiff, Nat.reduceAdd, Nat.reduceMul, Nat.reduceLeDiff, Nat.reduceSub, Nat.reduceLT, Nat.reduceBEq, ↓reduceIte, reduceCtorEq, ← decide_not, okind, vpre, vpure, intBin, intPre, strBin, strPre, popTo, argSlots, fldV, fldAV, subCells, idxVV, idxAAV, idxSV, sliceV, sliceSV, boundV, szIs, storeOp, storeS, setRowV, eff, extV, buildV, splice, eqSV, fitsL, eqCells, eqCell, minmaxV, capV, binBV, nilCheckV, bytesV, V.cells, V.stays, h0, h2, h3, h6, hix, encF, g3, upd_same, upd_upd, r1, tt, ff, tf, ft, loadV_rp_int, k3, q1, ixf, q2, q3, ixe, q4]
            refine ⟨_, ?_, i + 1, by omega, rfl, ?_, hapz, ?_, ?_, by simp [h0, h2, h3]⟩
            · omega
            · rw [hsn, hst]; subst hKd; exact k8
            · rw [hsn, hst]; subst hKd; exact p4
            · rw [hsn, hst]; subst hKd; exact p5
    · have hlt' : ((i : Int) < (l.length : Int)) = False := eq_false (by omega)
      obtain rfl : i = l.length := by omega
      rw [List.take_length] at *
      generalize sumM 0 sm0 l = M at *
      have g3 := hsub _ _ (hK3 M)
      have g2 := hsub _ _ (hK2 M)
      have hs0 : SubStore σ σ' := (hKσ M).trans hsub
      have hl4 : (l.map (·.used)).length ≤ 1000000000 := by simp; omega
      have hl5 : (l.map (·.free)).length ≤ 1000000000 := by simp; omega
      (refine Runs.of_step Orc.nothing 300 ?_; simp -implicitDefEqProofs only [BB, Int.reduceEq, Int.reduceNe, Int.reduceLT, Int.reduceLE, Int.reduceGT, Int.reduceGE, Nat.reduceEqDiff, Nat.reduceAdd, Nat.reduceMul, Nat.reduceLeDiff, Nat.reduceSub, Nat.reduceLT, Nat.reduceBEq, ↓reduceIte, reduceCtorEq, ← decide_not, okind, vpre, vpure, intBin, intPre, strBin, strPre, popTo, argSlots, fldV, fldAV, subCells, idxVV, idxAAV, idxSV, sliceV, sliceSV, boundV, szIs, storeOp, storeS, setRowV, eff, extV, buildV, splice, eqSV, fitsL, eqCells, eqCell, minmaxV, capV, binBV, nilCheckV, bytesV, V.cells, V.stays, Orc.nothing, h0, h2, h3, h6, hv4, hv5, len_encFl, hlt'])
      refine Runs.pcall rfl rfl rfl (PFun.borrow (args' := [encI (l.map fun x : Fl => x.used)]) ⟨o4.wk (nost_sub _) (nost_sub σ'), trivial⟩ (add28_c _ hl4) rfl) ?_
      (refine Runs.of_step Orc.nothing 300 ?_; simp -implicitDefEqProofs only [BB, Int.reduceEq, Int.reduceNe, Int.reduceLT, Int.reduceLE, Int.reduceGT, Int.reduceGE, Nat.reduceEqDiff, Nat.reduceAdd, Nat.reduceMul, Nat.reduceLeDiff, Nat.reduceSub, Nat.reduceLT, Nat.reduceBEq, ↓reduceIte, reduceCtorEq, ← decide_not, okind, vpre, vpure, intBin, intPre, strBin, strPre, popTo, argSlots, fldV, fldAV, subCells, idxVV, idxAAV, idxSV, sliceV, sliceSV, boundV, szIs, storeOp, storeS, setRowV, eff, extV, buildV, splice, eqSV, fitsL, eqCells, eqCell, minmaxV, capV, binBV, nilCheckV, bytesV, V.cells, V.stays, Orc.nothing, h0, h2, h3, h6, hv4, hv5, g3])
      refine Runs.pcall rfl rfl rfl (PFun.borrow (args' := [encI (l.map fun x : Fl => x.free)]) ⟨(hOg M σ' v5 _ _ o5).wk (nost_sub _) (nost_sub _), trivial⟩ (add28_c _ hl5) rfl) ?_
      (refine Runs.of_step Orc.nothing 300 ?_; simp -implicitDefEqProofs only [BB, Int.reduceEq, Int.reduceNe, Int.reduceLT, Int.reduceLE, Int.reduceGT, Int.reduceGE, Nat.reduceEqDiff, Nat.reduceAdd, Nat.reduceMul, Nat.reduceLeDiff, Nat.reduceSub, Nat.reduceLT, Nat.reduceBEq, ↓reduceIte, reduceCtorEq, ← decide_not, okind, vpre, vpure, intBin, intPre, strBin, strPre, popTo, argSlots, fldV, fldAV, subCells, idxVV, idxAAV, idxSV, sliceV, sliceSV, boundV, szIs, storeOp, storeS, setRowV, eff, extV, buildV, splice, eqSV, fitsL, eqCells, eqCell, minmaxV, capV, binBV, nilCheckV, bytesV, V.cells, V.stays, Orc.nothing, h0, h2, h3, h6, hv4, hv5, upd_same, upd_upd, upd_ne n23, g2])
      have e : encU M = .agg [vI l.length, vI M.blank, vI (addI (l.map fun x : Fl => x.used)), vI (addI (l.map fun x : Fl => x.free)), vI M.full, vI M.empt] := by
        unfold encU; rw [i1, i3, i4]
      rw [e]
      exact RetV.pure ((hs0.updK z3).updK f2) rfl
end Go.Vc
namespace Go.Vc
open Go.Proofs
theorem eq_encU (m : Sm) : eqSV false [0, 0, 0, 0, 0, 0] (encU m) (encU m) = some (.bool true) := by
  unfold encU
  simp only [eqSV]
  simp [eqCells, eqCell, fitsL]
set_option maxRecDepth 100000 in
theorem law4_c (l : List Fl) (s : List UInt8) : PFun Tryd.prog 4 [encFl l, .str s] (.bool true) := fun σ => by
  refine Contract.of_runs Tryd.func4 e4 k4 (by simp [c4]) ?_
  refine Runs.mix 12 ?_
  have tt : (true == true) = true := rfl
  have ff : (false == false) = true := rfl
  by_cases hl : l.length > 100
  · have q1 : ((l.length : Int) > 100) = True := by simp; omega
    (refine Runs.of_step Orc.nothing 300 ?_; simp -implicitDefEqProofs only [BB, Int.reduceEq, Int.reduceNe, Int.reduceLT, Int.reduceLE, Int.reduceGT, Int.reduceGE, Nat.reduceEqDiff, Nat.reduceAdd, Nat.reduceMul, Nat.reduceLeDiff, Nat.reduceSub, Nat.reduceLT, Nat.reduceBEq, ↓reduceIte, reduceCtorEq, ← decide_not, okind, vpre, vpure, intBin, intPre, strBin, strPre, popTo, argSlots, fldV, fldAV, subCells, idxVV, idxAAV, idxSV, sliceV, sliceSV, boundV, szIs, storeOp, storeS, setRowV, eff, extV, buildV, splice, eqSV, fitsL, eqCells, eqCell, minmaxV, capV, binBV, nilCheckV, bytesV, V.cells, V.stays, Orc.nothing, c4, len_encFl, q1, tt, ff])
    refine Runs.pcall rfl rfl rfl (awake6_c _) ?_
    (refine Runs.of_step Orc.nothing 300 ?_; simp -implicitDefEqProofs only [BB, Int.reduceEq, Int.reduceNe, Int.reduceLT, Int.reduceLE, Int.reduceGT, Int.reduceGE, Nat.reduceEqDiff, Nat.reduceAdd, Nat.reduceMul, Nat.reduceLeDiff, Nat.reduceSub, Nat.reduceLT, Nat.reduceBEq, ↓reduceIte, reduceCtorEq, ← decide_not, okind, vpre, vpure, intBin, intPre, strBin, strPre, popTo, argSlots, fldV, fldAV, subCells, idxVV, idxAAV, idxSV, sliceV, sliceSV, boundV, szIs, storeOp, storeS, setRowV, eff, extV, buildV, splice, eqSV, fitsL, eqCells, eqCell, minmaxV, capV, binBV, nilCheckV, bytesV, V.cells, V.stays, Orc.nothing])
    exact RetV.same rfl
  have q1 : ((l.length : Int) > 100) = False := by simp; omega
  by_cases hs : s.length > 3000
  · have q2 : ((s.length : Int) > 3000) = True := by simp; omega
    (refine Runs.of_step Orc.nothing 300 ?_; simp -implicitDefEqProofs only [BB, Int.reduceEq, Int.reduceNe, Int.reduceLT, Int.reduceLE, Int.reduceGT, Int.reduceGE, Nat.reduceEqDiff, Nat.reduceAdd, Nat.reduceMul, Nat.reduceLeDiff, Nat.reduceSub, Nat.reduceLT, Nat.reduceBEq, ↓reduceIte, reduceCtorEq, ← decide_not, okind, vpre, vpure, intBin, intPre, strBin, strPre, popTo, argSlots, fldV, fldAV, subCells, idxVV, idxAAV, idxSV, sliceV, sliceSV, boundV, szIs, storeOp, storeS, setRowV, eff, extV, buildV, splice, eqSV, fitsL, eqCells, eqCell, minmaxV, capV, binBV, nilCheckV, bytesV, V.cells, V.stays, Orc.nothing, c4, len_encFl, q1, q2, tt, ff])
    refine Runs.pcall rfl rfl rfl (awake6_c _) ?_
    (refine Runs.of_step Orc.nothing 300 ?_; simp -implicitDefEqProofs only [BB, Int.reduceEq, Int.reduceNe, Int.reduceLT, Int.reduceLE, Int.reduceGT, Int.reduceGE, Nat.reduceEqDiff, Nat.reduceAdd, Nat.reduceMul, Nat.reduceLeDiff, Nat.reduceSub, Nat.reduceLT, Nat.reduceBEq, ↓reduceIte, reduceCtorEq, ← decide_not, okind, vpre, vpure, intBin, intPre, strBin, strPre, popTo, argSlots, fldV, fldAV, subCells, idxVV, idxAAV, idxSV, sliceV, sliceSV, boundV, szIs, storeOp, storeS, setRowV, eff, extV, buildV, splice, eqSV, fitsL, eqCells, eqCell, minmaxV, capV, binBV, nilCheckV, bytesV, V.cells, V.stays, Orc.nothing])
    exact RetV.same rfl
  have q2 : ((s.length : Int) > 3000) = False := by simp; omega
  have hb2 : l.length * 33 ≤ 140737488355328 := by omega
  (refine Runs.of_step Orc.nothing 300 ?_; simp -implicitDefEqProofs only [BB, Int.reduceEq, Int.reduceNe, Int.reduceLT, Int.reduceLE, Int.reduceGT, Int.reduceGE, Nat.reduceEqDiff, Nat.reduceAdd, Nat.reduceMul, Nat.reduceLeDiff, Nat.reduceSub, Nat.reduceLT, Nat.reduceBEq, ↓reduceIte, reduceCtorEq, ← decide_not, okind, vpre, vpure, intBin, intPre, strBin, strPre, popTo, argSlots, fldV, fldAV, subCells, idxVV, idxAAV, idxSV, sliceV, sliceSV, boundV, szIs, storeOp, storeS, setRowV, eff, extV, buildV, splice, eqSV, fitsL, eqCells, eqCell, minmaxV, capV, binBV, nilCheckV, bytesV, V.cells, V.stays, Orc.nothing, c4, len_encFl, q1, q2, tt, ff])
  refine effR_new fun id25 σ1 s1 a25 f25 => ?_
  have hout : OutV σ σ1 24 4 (.own id25 0 0) [] := OutV.new rfl a25 f25
  obtain ⟨idA, hda, hdel⟩ := hout.dst (SubStore.refl σ1)
  have hsr : srcRows σ1 4 (encFl l) = some (l.map encF) := rfl
  simp -implicitDefEqProofs only [BB, Int.reduceEq, Int.reduceNe, Int.reduceLT, Int.reduceLE, Int.reduceGT, Int.reduceGE, Nat.reduceEqDiff, Nat.reduceAdd, Nat.reduceMul, Nat.reduceLeDiff, Nat.reduceSub, Nat.reduceLT, Nat.reduceBEq, ↓reduceIte, reduceCtorEq, ← decide_not, okind, vpre, vpure, intBin, intPre, strBin, strPre, popTo, argSlots, fldV, fldAV, subCells, idxVV, idxAAV, idxSV, sliceV, sliceSV, boundV, szIs, storeOp, storeS, setRowV, eff, extV, buildV, splice, eqSV, fitsL, eqCells, eqCell, minmaxV, capV, binBV, nilCheckV, bytesV, V.cells, V.stays, hda, hsr, List.length_map, hb2]
  refine effR_put fun id5 σ2 s2 a5 f5 => ?_
  have k2 : SubStore σ σ2 := (hdel σ (SubStore.refl _) σ1 s1).trans s2
  have a5 : σ2 id5 = some ⟨24, 4, l.map encF⟩ := a5
  have hwk : ∀ K', SubStore K' σ → Wk σ2 K' (.own id5 0 l.length) (encFl l) := fun K' hK => by
    have := Wk.own (hK.trans k2) a5 (σ' := K') (hK.none (s1.none f5)) (off := 0) (len := l.length) (by simp)
    rw [List.drop_zero, List.take_of_length_le (by simp)] at this; exact this
  simp -implicitDefEqProofs only [BB, Int.reduceEq, Int.reduceNe, Int.reduceLT, Int.reduceLE, Int.reduceGT, Int.reduceGE, Nat.reduceEqDiff, Nat.reduceAdd, Nat.reduceMul, Nat.reduceLeDiff, Nat.reduceSub, Nat.reduceLT, Nat.reduceBEq, ↓reduceIte, reduceCtorEq, ← decide_not, okind, vpre, vpure, intBin, intPre, strBin, strPre, popTo, argSlots, fldV, fldAV, subCells, idxVV, idxAAV, idxSV, sliceV, sliceSV, boundV, szIs, storeOp, storeS, setRowV, eff, extV, buildV, splice, eqSV, fitsL, eqCells, eqCell, minmaxV, capV, binBV, nilCheckV, bytesV, V.cells, V.stays]
  refine Runs.pcall rfl rfl rfl (PFun.borrow (args' := [encFl l]) ⟨hwk _ (nost_sub _), trivial⟩ (write_c l (by omega)) ?_) ?_
  · unfold writeV; split <;> rfl
  generalize hw : writeV l = W
  obtain ⟨a, b, rfl⟩ : ∃ a b, W = .tup [.str a, vI b] := by
    rw [← hw]; unfold writeV; split
    · exact ⟨_, _, rfl⟩
    · exact ⟨_, _, rfl⟩
  (refine Runs.of_step Orc.nothing 300 ?_; simp -implicitDefEqProofs only [BB, Int.reduceEq, Int.reduceNe, Int.reduceLT, Int.reduceLE, Int.reduceGT, Int.reduceGE, Nat.reduceEqDiff, Nat.reduceAdd, Nat.reduceMul, Nat.reduceLeDiff, Nat.reduceSub, Nat.reduceLT, Nat.reduceBEq, ↓reduceIte, reduceCtorEq, ← decide_not, okind, vpre, vpure, intBin, intPre, strBin, strPre, popTo, argSlots, fldV, fldAV, subCells, idxVV, idxAAV, idxSV, sliceV, sliceSV, boundV, szIs, storeOp, storeS, setRowV, eff, extV, buildV, splice, eqSV, fitsL, eqCells, eqCell, minmaxV, capV, binBV, nilCheckV, bytesV, V.cells, V.stays, Orc.nothing])
  refine Runs.pcall rfl rfl rfl (write9_c l (by omega) _) ?_
  rw [hw]
  (refine Runs.of_step Orc.nothing 300 ?_; simp -implicitDefEqProofs only [BB, Int.reduceEq, Int.reduceNe, Int.reduceLT, Int.reduceLE, Int.reduceGT, Int.reduceGE, Nat.reduceEqDiff, Nat.reduceAdd, Nat.reduceMul, Nat.reduceLeDiff, Nat.reduceSub, Nat.reduceLT, Nat.reduceBEq, ↓reduceIte, reduceCtorEq, ← decide_not, okind, vpre, vpure, intBin, intPre, strBin, strPre, popTo, argSlots, fldV, fldAV, subCells, idxVV, idxAAV, idxSV, sliceV, sliceSV, boundV, szIs, storeOp, storeS, setRowV, eff, extV, buildV, splice, eqSV, fitsL, eqCells, eqCell, minmaxV, capV, binBV, nilCheckV, bytesV, V.cells, V.stays, Orc.nothing])
  refine Runs.pcall rfl rfl rfl (read_c s (by omega) _) ?_
  have h11 := read11_c s (by omega)
  generalize hr : rdL (splitL 10 s) 0 = R at *
  obtain ⟨d, x, y, hR, hd⟩ : ∃ (d : List Fl) (x y : Int), rdV R = .tup [encFl d, vI x, vI y] ∧ d.length ≤ 1000000000 := by
    cases R with
    | ok k =>
      refine ⟨k, 0, 0, rfl, ?_⟩
      obtain ⟨_, hk2⟩ := read_back hr
      have := textT_ge k
      rw [hk2] at this; omega
    | error n => exact ⟨[], n, 1, rfl, by simp⟩
  rw [hR] at h11 ⊢
  (refine Runs.of_step Orc.nothing 300 ?_; simp -implicitDefEqProofs only [BB, Int.reduceEq, Int.reduceNe, Int.reduceLT, Int.reduceLE, Int.reduceGT, Int.reduceGE, Nat.reduceEqDiff, Nat.reduceAdd, Nat.reduceMul, Nat.reduceLeDiff, Nat.reduceSub, Nat.reduceLT, Nat.reduceBEq, ↓reduceIte, reduceCtorEq, ← decide_not, okind, vpre, vpure, intBin, intPre, strBin, strPre, popTo, argSlots, fldV, fldAV, subCells, idxVV, idxAAV, idxSV, sliceV, sliceSV, boundV, szIs, storeOp, storeS, setRowV, eff, extV, buildV, splice, eqSV, fitsL, eqCells, eqCell, minmaxV, capV, binBV, nilCheckV, bytesV, V.cells, V.stays, Orc.nothing])
  refine Runs.pcall rfl rfl rfl (h11 _) ?_
  (refine Runs.of_step Orc.nothing 300 ?_; simp -implicitDefEqProofs only [BB, Int.reduceEq, Int.reduceNe, Int.reduceLT, Int.reduceLE, Int.reduceGT, Int.reduceGE, Nat.reduceEqDiff, Nat.reduceAdd, Nat.reduceMul, Nat.reduceLeDiff, Nat.reduceSub, Nat.reduceLT, Nat.reduceBEq, ↓reduceIte, reduceCtorEq, ← decide_not, okind, vpre, vpure, intBin, intPre, strBin, strPre, popTo, argSlots, fldV, fldAV, subCells, idxVV, idxAAV, idxSV, sliceV, sliceSV, boundV, szIs, storeOp, storeS, setRowV, eff, extV, buildV, splice, eqSV, fitsL, eqCells, eqCell, minmaxV, capV, binBV, nilCheckV, bytesV, V.cells, V.stays, Orc.nothing])
  refine Runs.pcall rfl rfl rfl (PFun.borrow (args' := [encFl l]) ⟨hwk _ (nost_sub _), trivial⟩ (sum_c l (by omega)) rfl) ?_
  (refine Runs.of_step Orc.nothing 300 ?_; simp -implicitDefEqProofs only [BB, Int.reduceEq, Int.reduceNe, Int.reduceLT, Int.reduceLE, Int.reduceGT, Int.reduceGE, Nat.reduceEqDiff, Nat.reduceAdd, Nat.reduceMul, Nat.reduceLeDiff, Nat.reduceSub, Nat.reduceLT, Nat.reduceBEq, ↓reduceIte, reduceCtorEq, ← decide_not, okind, vpre, vpure, intBin, intPre, strBin, strPre, popTo, argSlots, fldV, fldAV, subCells, idxVV, idxAAV, idxSV, sliceV, sliceSV, boundV, szIs, storeOp, storeS, setRowV, eff, extV, buildV, splice, eqSV, fitsL, eqCells, eqCell, minmaxV, capV, binBV, nilCheckV, bytesV, V.cells, V.stays, Orc.nothing])
  refine Runs.pcall rfl rfl rfl (sum12_c l (by omega) _) ?_
  have he := eq_encU (sumM 0 sm0 l)
  have z1 : (a = a) = True := by simp
  have z2 : (b = b) = True := by simp
  have z3 : (x = x) = True := by simp
  have z4 : (y = y) = True := by simp
  (refine Runs.of_step Orc.nothing 300 ?_; simp -implicitDefEqProofs only [BB, Int.reduceEq, Int.reduceNe, Int.reduceLT, Int.reduceLE, Int.reduceGT, Int.reduceGE, Nat.reduceEqDiff, Nat.reduceAdd, Nat.reduceMul, Nat.reduceLeDiff, Nat.reduceSub, Nat.reduceLT, Nat.reduceBEq, ↓reduceIte, reduceCtorEq, ← decide_not, okind, vpre, vpure, intBin, intPre, strBin, strPre, popTo, argSlots, fldV, fldAV, subCells, idxVV, idxAAV, idxSV, sliceV, sliceSV, boundV, szIs, storeOp, storeS, setRowV, eff, extV, buildV, splice, fitsL, eqCells, eqCell, minmaxV, capV, binBV, nilCheckV, bytesV, V.cells, V.stays, Orc.nothing, he, z1, z2, tt, ff])
  refine Runs.pcall rfl rfl rfl (same13_c d d hd _) ?_
  have z5 : (d = d) = True := by simp
  (refine Runs.of_step Orc.nothing 300 ?_; simp -implicitDefEqProofs only [BB, Int.reduceEq, Int.reduceNe, Int.reduceLT, Int.reduceLE, Int.reduceGT, Int.reduceGE, Nat.reduceEqDiff, Nat.reduceAdd, Nat.reduceMul, Nat.reduceLeDiff, Nat.reduceSub, Nat.reduceLT, Nat.reduceBEq, ↓reduceIte, reduceCtorEq, ← decide_not, okind, vpre, vpure, intBin, intPre, strBin, strPre, popTo, argSlots, fldV, fldAV, subCells, idxVV, idxAAV, idxSV, sliceV, sliceSV, boundV, szIs, storeOp, storeS, setRowV, eff, extV, buildV, splice, eqSV, fitsL, eqCells, eqCell, minmaxV, capV, binBV, nilCheckV, bytesV, V.cells, V.stays, Orc.nothing, z3, z4, z5, tt, ff])
  refine Runs.pcall rfl rfl rfl (PFun.borrow (args' := [encFl l, encFl l]) ⟨hwk _ (nost_sub _), Wk.refl (nost_sub _) _, trivial⟩ (same13_c l l (by omega)) rfl) ?_
  have z6 : (l = l) = True := by simp
  (refine Runs.of_step Orc.nothing 300 ?_; simp -implicitDefEqProofs only [BB, Int.reduceEq, Int.reduceNe, Int.reduceLT, Int.reduceLE, Int.reduceGT, Int.reduceGE, Nat.reduceEqDiff, Nat.reduceAdd, Nat.reduceMul, Nat.reduceLeDiff, Nat.reduceSub, Nat.reduceLT, Nat.reduceBEq, ↓reduceIte, reduceCtorEq, ← decide_not, okind, vpre, vpure, intBin, intPre, strBin, strPre, popTo, argSlots, fldV, fldAV, subCells, idxVV, idxAAV, idxSV, sliceV, sliceSV, boundV, szIs, storeOp, storeS, setRowV, eff, extV, buildV, splice, eqSV, fitsL, eqCells, eqCell, minmaxV, capV, binBV, nilCheckV, bytesV, V.cells, V.stays, Orc.nothing, z6, tt, ff])
  refine Runs.pcall rfl rfl rfl (awake6_c _) ?_
  (refine Runs.of_step Orc.nothing 300 ?_; simp -implicitDefEqProofs only [BB, Int.reduceEq, Int.reduceNe, Int.reduceLT, Int.reduceLE, Int.reduceGT, Int.reduceGE, Nat.reduceEqDiff, Nat.reduceAdd, Nat.reduceMul, Nat.reduceLeDiff, Nat.reduceSub, Nat.reduceLT, Nat.reduceBEq, ↓reduceIte, reduceCtorEq, ← decide_not, okind, vpre, vpure, intBin, intPre, strBin, strPre, popTo, argSlots, fldV, fldAV, subCells, idxVV, idxAAV, idxSV, sliceV, sliceSV, boundV, szIs, storeOp, storeS, setRowV, eff, extV, buildV, splice, eqSV, fitsL, eqCells, eqCell, minmaxV, capV, binBV, nilCheckV, bytesV, V.cells, V.stays, Orc.nothing])
  exact RetV.pure k2 rfl
end Go.Vc
namespace Go.Vc
open Go.Proofs
theorem mapsOf {α : Type} {f : α → V} : ∀ {rows : List V}, (∀ r ∈ rows, ∃ x, r = f x) → ∃ l : List α, rows = l.map f
  | [], _ => ⟨[], rfl⟩
  | r :: rs, h => by
    obtain ⟨x, rfl⟩ := h r (by simp)
    obtain ⟨l, rfl⟩ := mapsOf fun q hq => h q (List.mem_cons_of_mem _ hq)
    exact ⟨x :: l, rfl⟩
section
variable {P : Program} {n : Nat} {t : TypeId} {vs : List V}
set_option maxRecDepth 100000 in
theorem shpI {k : IntKind} (ht : P.underlying t = some (.int k)) (h : ShpC P (n + 1) t vs) : ∃ m, vs = [.int k m] ∧ (Lit.int k m).wf = true := by
  simpa only [ShpC, ht] using h
set_option maxRecDepth 100000 in
theorem shpT (ht : P.underlying t = some .string) (h : ShpC P (n + 1) t vs) : ∃ s : List UInt8, vs = [.str s] ∧ s.length ≤ reachBytes := by
  simpa only [ShpC, ht] using h
set_option maxRecDepth 100000 in
theorem shpL {e : TypeId} (ht : P.underlying t = some (.slice e)) (h : ShpC P (n + 1) t vs) : ∃ rows, vs = [.sl (P.cellsOf e) rows] ∧ rows.length * P.bytesOf e ≤ reachBytes ∧ ∀ r ∈ rows, ∃ cs, ShpC P n e cs ∧ r = rowOf (aggT P e) cs := by
  simpa only [ShpC, ht] using h
set_option maxRecDepth 100000 in
theorem shpS {fs : Array Field} (ht : P.underlying t = some (.struct fs)) (h : ShpC P (n + 1) t vs) : ShpFs (ShpC P n) fs.toList vs := by
  simpa only [ShpC, ht] using h
end
set_option maxRecDepth 100000 in
theorem gcells24 : Tryd.prog.cellsOf 24 = 4 := by kernel_rfl
set_option maxRecDepth 100000 in
theorem gagg24 : aggT Tryd.prog 24 = true := by kernel_rfl
set_option maxRecDepth 100000 in
theorem gagg22 : aggT Tryd.prog 22 = false := by kernel_rfl
set_option maxRecDepth 100000 in
theorem shp_F {n : Nat} {vs : List V} (h : ShpC Tryd.prog (n + 2) 24 vs) : ∃ x : Fl, vs = [vI x.no, vI x.kind, vI x.used, vI x.free] := by
  replace h := shpS Tryd.underlying24 h
  simp only [ShpFs] at h
  obtain ⟨_, _, rfl, h1, _, _, rfl, h2, _, _, rfl, h3, _, _, rfl, h4, rfl⟩ := h
  obtain ⟨m1, rfl, _⟩ := shpI Tryd.underlying3 h1
  obtain ⟨m2, rfl, _⟩ := shpI Tryd.underlying3 h2
  obtain ⟨m3, rfl, _⟩ := shpI Tryd.underlying3 h3
  obtain ⟨m4, rfl, _⟩ := shpI Tryd.underlying3 h4
  exact ⟨⟨m1, m2, m3, m4⟩, rfl⟩
set_option maxRecDepth 100000 in
theorem arg_Fl {n : Nat} {vs : List V} (h : ShpC Tryd.prog (n + 3) 22 vs) : ∃ l, argOf Tryd.prog 22 vs = encFl l := by
  obtain ⟨rows, rfl, hl, h⟩ := shpL Tryd.underlying22 h
  obtain ⟨l, rfl⟩ := mapsOf (f := encF) fun r hr => by
    obtain ⟨cs, hc, rfl⟩ := h r hr
    obtain ⟨x, rfl⟩ := shp_F hc
    exact ⟨x, by rw [gagg24]; rfl⟩
  exact ⟨l, by unfold argOf; rw [gagg22, gcells24]; rfl⟩
end Go.Vc
namespace Go.Vc
open Go.Proofs Go.Proofs.YtpinmkaeafpfdaaDoor Go.RowKit Go.ChangeShapes
theorem starName : "*" ++ "errors.errorString" = "*errors.errorString" := by decide
theorem row125 (u : TypeId) (h : Tryd.prog.typeName? 3 u = some "*errors.errorString") : u = 125 :=
  typeName_ptr_named (nm := "errors.errorString") (by rw [starName]; kernel_rfl) (by kernel_rfl) (by decide) u (by rw [starName]; exact h)
theorem orig_of_laid {w : World} (h : laidMet Tryd.prog Rows.gaugeBackRow.laid w) : Orig w := by
  have h2 := h.tail.tail
  have h4 := h2.tail.tail
  have h5 := h4.tail
  refine ⟨?_, ?_, ?_⟩
  · exact Lib.tabIs_of_head (g := 1) (n := 20) (e := 92) (t := 107) (by kernel_rfl) (by kernel_rfl) (by kernel_rfl) (by kernel_rfl) (by kernel_rfl) (by kernel_rfl) h2
  · obtain ⟨a, s, hv, _⟩ := laid_sentinel h5 (g := 2) (ti := 55) (tp := 125) (te := 127) (ts := 9) (by kernel_rfl) (by kernel_rfl) Tryd.underlying55 row125 Tryd.underlying125 Tryd.underlying127 rfl rfl Tryd.underlying9 (by kernel_rfl) (by kernel_rfl)
    exact ⟨_, _, hv⟩
  · obtain ⟨a, s, hv, _⟩ := laid_sentinel h4 (g := 3) (ti := 55) (tp := 125) (te := 127) (ts := 9) (by kernel_rfl) (by kernel_rfl) Tryd.underlying55 row125 Tryd.underlying125 Tryd.underlying127 rfl rfl Tryd.underlying9 (by kernel_rfl) (by kernel_rfl)
    exact ⟨_, _, hv⟩
end Go.Vc
