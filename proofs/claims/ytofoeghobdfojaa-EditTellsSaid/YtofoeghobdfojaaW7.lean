/- Part 7 of the library of this proof. -/
import Derived.Test.YtofoeghobdfojaaW6
import Derived.RangeFuncNested
import Derived.RangeFuncBound
import Derived.RangeFuncCalls
import Derived.RangeFuncLeaves
import Derived.Shelf.Abstract
import Derived.Shelf.RegionOpen
import Derived.WalkKit
import Derived.OwnWalkIn
import Derived.TacticsInMore
import Derived.LoopNIn
import Derived.LoopIn
set_option linter.all false
namespace Go.Proofs
open Go.RowKit Go.Shelf
attribute [local go_sem] Oper.semAt_some
theorem cell_of_box_v {W : World} {B : Nat} {v : Value} {t : TypeId} (h : W.heap[B]? = some (.cells #[v] t (0, 0))) : W.cell? ⟨B, 0, none⟩ = some v ∧ W.frozen? ⟨B, 0, none⟩ = false := by
  constructor <;> simp [World.cell?, World.frozen?, h]
theorem cell_new_v (W : World) (v : Value) (t : TypeId) : (W.alloc (.cells #[v] t)).cell? ⟨W.heap.size, 0, none⟩ = some v ∧ (W.alloc (.cells #[v] t)).frozen? ⟨W.heap.size, 0, none⟩ = false :=
  cell_of_box_v (World.alloc_heap_new W _)
theorem cell_alloc_v {W : World} {a : Addr} {v : Value} (o : Obj) (h : W.cell? a = some v) : (W.alloc o).cell? a = some v := cell_kept h (World.grownBy_alloc W o none) (fun r e => by cases e)
theorem grown_of_below {W W' : World} (h : Below W.heap.size W W') : W.grownBy W' none := ⟨h.os, h.tape, h.output, h.size, fun k hk _ => h.block k hk⟩
set_option maxRecDepth 100000 in
set_option maxHeartbeats 2000000 in
theorem above1_in (l : List Vc.Nd) (hl : Vc.Fine l) (hb : Vc.isB l = true) (n : Nat) (hn : 1 ≤ n) (lp Bo Ba n₀ a : Nat) (ha : a < l.length) (x : Value) (w0 : World) (hx : Vc.NodesAt l w0 x) (hn₀ : w0.heap.size ≤ n₀) (hBo : Bo < n₀) (hBa : Ba < n₀)
    (J Jx : List Int → World → Prop) (W : World) (hJ : AbidesFrom W.heap.size J)
    (hY : ∀ pre y W, J pre W → pre.length < (Vc.ups l (l.length + 1) (Vc.parR l a)).length → YieldAt Fence.wide (n - 1) Try.prog lp #[.int .i64 y] W fun e W' =>
      (e = .returned (.bool true) ∧ J (pre ++ [y]) W' ∧ Below n₀ W W') ∨ (e = .returned (.bool false) ∧ Jx (pre ++ [y]) W'))
    (hW : Below n₀ w0 W) (hWs : n₀ ≤ W.heap.size) (hco : W.cell? ⟨Bo, 0, none⟩ = some x) (hca : W.cell? ⟨Ba, 0, none⟩ = some (.int .i64 a)) (h0 : J [] W) :
    CallsIn Fence.wide n Try.prog 106 #[.func (.yield lp) #[] #[], .pointer (some ⟨Bo, 0, none⟩), .pointer (some ⟨Ba, 0, none⟩)] W fun e W' => (∃ v, e = .returned v) ∧
      ((∃ ys, ys = Vc.ups l (l.length + 1) (Vc.parR l a) ∧ J ys W') ∨ (∃ pre, pre <+: Vc.ups l (l.length + 1) (Vc.parR l a) ∧ Jx pre W')) := by
  refine callsIn_of_wp Try.func106 rfl trivial ?_ rfl
  simp only [Try.ntmps106, List.size_toArray, List.length_cons, List.length_nil, Nat.reduceAdd, Nat.reduceSub, Array.replicate_succ, Array.replicate_zero, List.push_toArray, List.append_toArray, List.nil_append, List.cons_append]
  have hxW := hx.below hn₀ hW
  have hhas : Vc.hasI l (a : Int) = true := Vc.hasI_iff.2 ⟨by omega, by omega⟩
  have hJn : ∀ s A B, J s A → Below A.heap.size A B → J s B := fun s A B h hB => hJ s A B none h (grown_of_below hB) (fun r e => by cases e)
  have hpr := Vc.parR_range l a
  gi_wp2_with (first
    | (refine ⟨trivial, ?_⟩; gi_at_call 94; refine (callsIn_wide.2 (Vc.has9_k (a := (a : Int)) hxW)).mono ?_; rintro e W1 ⟨rfl, hb1⟩; rw [hhas]; have hco1 := (hb1.cell (p := ⟨Bo, 0, none⟩) (show Bo < W.heap.size by omega)).trans hco; have hca1 := (hb1.cell (p := ⟨Ba, 0, none⟩) (show Ba < W.heap.size by omega)).trans hca; have hxW1 := hxW.below (Nat.le_refl _) hb1)
    | (refine ⟨trivial, ?_⟩; gi_at_call 107; refine (callsIn_wide.2 (Vc.parent9_k hl hb ha hxW1)).mono ?_; rintro e W2 ⟨rfl, hb2⟩))
  have hco2 := (hb2.cell (p := ⟨Bo, 0, none⟩) (show Bo < W1.heap.size by have := hb1.size; omega)).trans hco1
  have hW2 : Below n₀ w0 W2 := hW.trans ((hb1.mono hWs).trans (hb2.mono (by have := hb1.size; omega)))
  have h02 : J [] W2 := hJn _ _ _ (hJn _ _ _ h0 hb1) hb2
  have hs2 : n₀ ≤ W2.heap.size := by have := hb1.size; have := hb2.size; omega
  gi_loopw [4] (fun p wr => ∃ (pre : List Int) (q : Int) (f : Nat), p = .int .i64 q ∧ -1 ≤ q ∧ q < l.length ∧ q < f ∧ Vc.ups l (l.length + 1) (Vc.parR l a) = pre ++ Vc.ups l f q ∧ Below n₀ w0 wr ∧ n₀ ≤ wr.heap.size ∧ wr.cell? ⟨Bo, 0, none⟩ = some x ∧ J pre wr)
    (fun p wr => (intOf p + 1).toNat)
  case atStart =>
    exact ⟨[], Vc.parR l a, l.length + 1, rfl, by omega, by omega, by omega, rfl, hW2, hs2, hco2, h02⟩
  case round =>
    obtain ⟨pre, q, f, rfl, hq1, hq2, hqf, hxs, hbr, hsr, hcr, hJr⟩ := hrel
    by_cases hq : 0 ≤ q
    · obtain ⟨g, rfl, hu⟩ := Vc.ups_pos (l := l) hq hqf
      have hlen : pre.length < (Vc.ups l (l.length + 1) (Vc.parR l a)).length := by rw [hxs, hu]; simp
      obtain ⟨fn, tmps, assign, body, hy, hR⟩ := hY pre q wr hJr hlen
      gi_wp2
      refine hR.mono ?_
      rintro e W3 (⟨rfl, hJ3, hk3⟩ | ⟨rfl, hJx3⟩)
      · have hbr3 : Below n₀ w0 W3 := hbr.trans hk3
        have hco3 := (hk3.cell (p := ⟨Bo, 0, none⟩) hBo).trans hcr
        have hx3 := hx.below hn₀ hbr3
        have hql : q.toNat < l.length := by omega
        have hqe : ((q.toNat : Nat) : Int) = q := by omega
        have hpq := Vc.parR_range l q.toNat
        gi_wp2_with (refine ⟨trivial, ?_⟩; gi_at_call 107; refine (callsIn_wide.2 (hqe ▸ Vc.parent9_k hl hb hql hx3)).mono ?_; rintro e W4 ⟨rfl, hb4⟩)
        go_roundw
        case rel =>
          have hs3 : n₀ ≤ W3.heap.size := Nat.le_trans hsr hk3.size
          exact ⟨pre ++ [q], Vc.parR l q.toNat, g, rfl, by omega, by omega, by omega, by rw [hxs, hu]; simp, hbr3.trans (hb4.mono hs3), Nat.le_trans hs3 hb4.size, (hb4.cell (p := ⟨Bo, 0, none⟩) (show Bo < W3.heap.size by omega)).trans hco3, hJn _ _ _ hJ3 hb4⟩
        case measure =>
          simp only [intOf]; omega
      · gi_wp2
        go_end0
        exact ⟨⟨_, rfl⟩, .inr ⟨pre ++ [q], by rw [hxs, hu]; exact ⟨_, by simp; rfl⟩, hJx3⟩⟩
    · gi_wp2
      refine ⟨fun _ h => (by cases h), ?_⟩
      gi_wp2
      go_end0
      exact ⟨⟨_, rfl⟩, .inl ⟨pre, by rw [hxs, Vc.ups_neg (by omega)]; simp, hJr⟩⟩
theorem above_in (n : Nat) (x : Value) (a : Int) (w : World) :
    CallsIn Fence.wide n Try.prog 100 #[.agg #[x], .int .i64 a] w fun e w' => e = .returned (.func (.func 106) #[] #[.pointer (some ⟨w.heap.size, 0, none⟩), .pointer (some ⟨w.heap.size + 1, 0, none⟩)]) ∧
      w' = (w.alloc (.cells #[x] 123)).alloc (.cells #[.int .i64 a] 3) := by
  refine callsIn_of_wp Try.func100 rfl trivial ?_ rfl
  simp only [Try.ntmps100, List.size_toArray, List.length_cons, List.length_nil, Nat.reduceAdd, Nat.reduceSub, Array.replicate_succ, Array.replicate_zero, List.push_toArray, List.append_toArray, List.nil_append, List.cons_append]
  gi_wp2
  go_ret
  exact ⟨rfl, rfl⟩
end Go.Proofs
namespace Go.Proofs
open Go.RowKit Go.Shelf
attribute [local go_sem] Oper.semAt_some
theorem above_stops (l : List Vc.Nd) (hl : Vc.Fine l) (hb : Vc.isB l = true) (n : Nat) (hn : 1 ≤ n) (Bo Ba a : Nat) (ha : a < l.length) (x : Value) (w : World) (hx : Vc.NodesAt l w x) (hBo : Bo < w.heap.size) (hBa : Ba < w.heap.size)
    (hco : w.cell? ⟨Bo, 0, none⟩ = some x) (hca : w.cell? ⟨Ba, 0, none⟩ = some (.int .i64 a)) :
    SeqStopsK Fence.wide n Try.prog 106 #[.pointer (some ⟨Bo, 0, none⟩), .pointer (some ⟨Ba, 0, none⟩)] (fun z : Int => #[Value.int .i64 z]) (Below w.heap.size) (fun ys => ys = Vc.ups l (l.length + 1) (Vc.parR l a)) (fun pre => pre <+: Vc.ups l (l.length + 1) (Vc.parR l a)) (Vc.ups l (l.length + 1) (Vc.parR l a)).length w :=
  fun lp J Jx W hW hJ _ hY h0 =>
  above1_in l hl hb n hn lp Bo Ba w.heap.size a ha x w hx (Nat.le_refl _) hBo hBa J Jx W hJ hY hW hW.size ((hW.cell (p := ⟨Bo, 0, none⟩) hBo).trans hco) ((hW.cell (p := ⟨Ba, 0, none⟩) hBa).trans hca) h0
set_option maxRecDepth 100000 in
set_option maxHeartbeats 4000000 in
theorem parent_in (l : List Vc.Nd) (hl : Vc.Fine l) (hb : Vc.isB l = true) (n : Nat) (hn : 3 ≤ n) (a : Nat) (ha : a < l.length) (x : Value) (w : World) (hx : Vc.NodesAt l w x) :
    CallsIn Fence.wide n Try.prog 91 #[x, .int .i64 a] w fun e W' => e = .returned (.int .i64 (Vc.parR l a)) ∧ Below w.heap.size w W' := by
  have h1 : 1 ≤ n := by omega
  refine callsIn_of_wp_marks Try.func91 rfl trivial ?_ rfl
  simp only [Try.ntmps91, List.size_toArray, List.length_cons, List.length_nil, Nat.reduceAdd, Nat.reduceSub, Array.replicate_succ, Array.replicate_zero, List.push_toArray, List.append_toArray, List.nil_append, List.cons_append]
  have c0 := cell_new_v w (.int .i64 0) 3
  have hx1 : Vc.NodesAt l (w.alloc (.cells #[.int .i64 0] 3)) x := hx.below (Nat.le_refl _) ((Below.refl _ w).alloc (Nat.le_refl _) _)
  gi_wp2_with (first
    | (refine ⟨trivial, ?_⟩; gi_at_call 93; refine (callsIn_wide.2 (Vc.of_k hl hb hx1)).mono ?_; rintro e w1 ⟨y, rfl, hy, hb1⟩)
    | (refine ⟨trivial, ?_⟩; gi_at_call 100; refine (above_in _ y a w1).mono ?_; rintro e w2 ⟨rfl, rfl⟩))
  have hs1 : w.heap.size + 1 ≤ w1.heap.size := by have := hb1.size; simpa using this
  have c0' : w1.cell? ⟨w.heap.size, 0, none⟩ = some (.int .i64 0) := (hb1.cell (p := ⟨w.heap.size, 0, none⟩) (by simp)).trans c0.1
  have f0' : w1.frozen? ⟨w.heap.size, 0, none⟩ = false := (hb1.frozen (p := ⟨w.heap.size, 0, none⟩) (by simp)).trans c0.2
  have hB1 : Below w.heap.size w w1 := ((Below.refl _ w).alloc (Nat.le_refl _) _).trans (hb1.mono (by simp))
  have cO := cell_new_v w1 y 123
  have cA := cell_new_v (w1.alloc (.cells #[y] 123)) (.int .i64 a) 3
  rw [World.size_alloc] at cA
  have hgrow : Below w1.heap.size w1 ((w1.alloc (.cells #[y] 123)).alloc (.cells #[.int .i64 a] 3)) := ((Below.refl _ w1).alloc (Nat.le_refl _) _).alloc (by simp) _
  have hsz : ((w1.alloc (.cells #[y] 123)).alloc (.cells #[.int .i64 (a : Int)] 3)).heap.size = w1.heap.size + 2 := by simp
  have cO' := cell_alloc_v (.cells #[.int .i64 (a : Int)] 3) cO.1
  obtain ⟨W0, hW0⟩ : ∃ W0, (w1.alloc (.cells #[y] 123)).alloc (.cells #[.int .i64 (a : Int)] 3) = W0 := ⟨_, rfl⟩
  rw [hW0] at hgrow hsz cO' cA ⊢
  have hyW := hy.below (Nat.le_refl _) hgrow
  have cR := (hgrow.cell (p := ⟨w.heap.size, 0, none⟩) (show w.heap.size < w1.heap.size by omega)).trans c0'
  have fR := (hgrow.frozen (p := ⟨w.heap.size, 0, none⟩) (show w.heap.size < w1.heap.size by omega)).trans f0'
  have hB0 : Below w.heap.size w W0 := hB1.trans (hgrow.mono (by omega))
  have hs0 : w.heap.size ≤ W0.heap.size := hB0.size
  have hpr := Vc.parR_range l a
  clear hx1 c0 cO hW0
  refine wpIn_rangeFunc_ownF rfl h1 (gf := 106) (lb := #[.pointer (some ⟨w1.heap.size, 0, none⟩), .pointer (some ⟨w1.heap.size + 1, 0, none⟩)]) rfl trivial (enters_of Try.func106 (by kernel_rfl) rfl)
    (above_stops l hl hb (n - 1) (by omega) w1.heap.size (w1.heap.size + 1) a ha y W0 hyW (by omega) (by omega) cO' cA.1) belowK_t (belowK_b (Nat.le_refl _)) (Below.refl _ _) (fun _ => rfl)
    (fun pre W => (pre = [] ∧ W.cell? ⟨w.heap.size, 0, none⟩ = some (.int .i64 0) ∧ W.frozen? ⟨w.heap.size, 0, none⟩ = false) ∧ Below w.heap.size w W)
    (fun c pre W => (c = .ret ∧ ∃ z, pre = [z] ∧ W.cell? ⟨w.heap.size, 0, none⟩ = some (.int .i64 z)) ∧ Below w.heap.size w W)
    (OwnFrom.and (Own.from (fun s A B row hs hg hr => ⟨hs.1, cell_kept hs.2.1 hg hr, (frozen_kept hs.2.1 hg hr).trans hs.2.2⟩) _) (ownFrom_below (Nat.le_refl _) hs0))
    (fun c => OwnFrom.and (Own.from (fun s A B row hs hg hr => ⟨hs.1, hs.2.choose, hs.2.choose_spec.1, cell_kept hs.2.choose_spec.2 hg hr⟩) _) (ownFrom_below (Nat.le_refl _) hs0))
    ⟨⟨rfl, cR, fR⟩, hB0⟩
    (fun z => { tmps := #[x, .int .i64 a, undef, undef, .pointer (some ⟨w.heap.size, 0, none⟩), .int .i64 z, x, .agg #[y], .int .i64 a, .func (.func 106) #[] #[.pointer (some ⟨w1.heap.size, 0, none⟩), .pointer (some ⟨w1.heap.size + 1, 0, none⟩)], .int .i64 z, undef], defers := [] }) ?assign ?body ?done ?stop
  case assign =>
    intro lp z W K hK
    gi_wp2
    exact hK
  case body =>
    rintro lp pre z W ⟨⟨rfl, hcr, hfr⟩, hB⟩ _
    gi_wp2
    exact ⟨KeepsOthers.setCell _ _ _, ⟨rfl, z, rfl, World.cell?_setCell_same' _ _ _ (by rw [hcr]; rfl)⟩, hB.setCell (p := ⟨w.heap.size, 0, none⟩) (by simp) _⟩
  case done =>
    rintro D ys W hD hys ⟨⟨rfl, hcr, hfr⟩, hB⟩ hK
    have hpm : Vc.parR l a = -1 := by
      by_cases h : 0 ≤ Vc.parR l a
      · obtain ⟨g, _, hu⟩ := Vc.ups_pos (l := l) (f := l.length + 1) h (by omega)
        rw [hu] at hys; cases hys
      · omega
    gi_wp2
    have hK' := (KeepsOthers.setCell W ⟨w.heap.size, 0, none⟩ (.int .i64 (-1))).same D _ hK rfl
    refine ⟨by simp, .inl ⟨_, _, rfl, run_takeDeferred hK', ?_⟩⟩
    have hc5 := cell_kept (World.cell?_setCell_same' W ⟨w.heap.size, 0, none⟩ (.int .i64 (-1)) (by rw [hcr]; rfl)) (grownBy_putObj' _ D (.deferred none)) (fun r e => by cases e; exact ⟨_, hK', rfl⟩)
    refine ⟨.int .i64 (-1), ?_, by rw [hpm], (hB.setCell (p := ⟨w.heap.size, 0, none⟩) (by simp) _).trans (belowK_b (w := w) (Nat.le_refl _) _ D _ _ (by omega) hK' rfl rfl)⟩
    simp [results, Try.f91, go_sem, hc5]
  case stop =>
    rintro D c pre W hD hpre ⟨⟨rfl, z, rfl, hcr⟩, hB⟩ hK
    have hpm : Vc.parR l a = z := by
      by_cases h : 0 ≤ Vc.parR l a
      · obtain ⟨g, _, hu⟩ := Vc.ups_pos (l := l) (f := l.length + 1) h (by omega)
        rw [hu] at hpre
        obtain ⟨t, ht⟩ := hpre
        simp at ht
        exact ht.1.symm
      · rw [Vc.ups_neg (by omega)] at hpre
        simp at hpre
    gi_wp2
    refine ⟨by simp, .inl ⟨_, _, rfl, run_takeDeferred hK, ?_⟩⟩
    have hc5 := cell_kept hcr (grownBy_putObj' _ D (.deferred none)) (fun r e => by cases e; exact ⟨_, hK, rfl⟩)
    refine ⟨.int .i64 z, ?_, by rw [hpm], hB.trans (belowK_b (w := w) (Nat.le_refl _) W D _ _ (by omega) hK rfl rfl)⟩
    simp [results, Try.f91, go_sem, hc5]
end Go.Proofs
namespace Go.Vc
open Go.Proofs Go.RowKit
/-- memory grows, and what lay stays -/
theorem Sat.grow {μ : Mu} {σ : Store} {w w' : World} (h : Sat w (Owned μ σ) μ σ w) (hb : Below w.heap.size w w') : Sat w (Owned μ σ) μ σ w' where
  size := hb.size
  os := hb.os
  tape := hb.tape
  output := hb.output
  same := fun b hlt _ => hb.block b hlt
  fin := h.fin
  inj := h.inj
  obj := fun id o ho => by
    refine (h.obj id o ho).mono (MuLe.refl μ) (fun b hlt hn => ⟨hn, hb.block b hlt⟩) hb.size (fun b sz cap hp => hb.block b ?_)
    exact Owned.lt h ⟨id, o, sz, cap, ho, hp⟩
  fresh := fun b hbb _ => hbb
theorem parent91_c (l : List Nd) (hl : Fine l) (hb : isB l = true) (a : Nat) (ha : a < l.length) : PFun Try.prog 91 [encNs l, vI a] (vI (parR l a)) := fun σ => by
  refine ⟨by kernel_rfl, ?_⟩
  intro μ w vals hs hr
  simp only [RepAll] at hr
  obtain ⟨x, xs, rfl, hx, y, ys, rfl, hy, rfl⟩ := hr
  simp only [Rep] at hy
  subst hy
  have hN : NodesAt l w x := ⟨μ, hs.fin, Rep.mono (MuLe.refl μ) (Keeps.sub w (nost_sub σ)) (Nat.le_refl _) _ _ hx⟩
  refine (callsIn_wide.1 (parent_in l hl hb 3 (by omega) a ha x w hN)).mono ?_
  rintro e w' ⟨rfl, hbw⟩
  exact ⟨_, σ, μ, _, rfl, ⟨rfl, rfl⟩, MuLe.refl μ, hs.grow hbw, by simp [Rep]⟩
end Go.Vc
namespace Go.Vc
open Go.Proofs
set_option maxRecDepth 100000 in
theorem outcomes_c : PFun Try.prog 44 [] (.agg [.nilfn, .fn 68 [], .fn 69 []]) := fun σ => by
  refine Contract.of_runs Try.func44 e44 k44 (by simp [c44]) ?_
  refine Runs.mix 2 ?_
  (refine Runs.of_step Orc.nothing 300 ?_; simp -implicitDefEqProofs only [BB, Int.reduceEq, Int.reduceNe, Int.reduceLT, Int.reduceLE, Int.reduceGT, Int.reduceGE, Nat.reduceEqDiff, Nat.reduceAdd, Nat.reduceMul, Nat.reduceLeDiff, Nat.reduceSub, Nat.reduceLT, Nat.reduceBEq, ↓reduceIte, reduceCtorEq, ← decide_not, okind, vpre, vpure, intBin, intPre, strBin, strPre, popTo, argSlots, fldV, fldAV, subCells, idxVV, idxAAV, idxSV, sliceV, sliceSV, boundV, szIs, storeOp, storeS, setRowV, eff, extV, buildV, splice, eqSV, fitsL, eqCells, eqCell, minmaxV, capV, binBV, nilCheckV, bytesV, V.cells, V.stays, Orc.nothing, c44])
  refine effR_new fun id1 σ1 s1 a1 f1 => ?_
  simp -implicitDefEqProofs only [BB, Int.reduceEq, Int.reduceNe, Int.reduceLT, Int.reduceLE, Int.reduceGT, Int.reduceGE, Nat.reduceEqDiff, Nat.reduceAdd, Nat.reduceMul, Nat.reduceLeDiff, Nat.reduceSub, Nat.reduceLT, Nat.reduceBEq, ↓reduceIte, reduceCtorEq, ← decide_not, okind, vpre, vpure, intBin, intPre, strBin, strPre, popTo, argSlots, fldV, fldAV, subCells, idxVV, idxAAV, idxSV, sliceV, sliceSV, boundV, szIs, storeOp, storeS, setRowV, eff, extV, buildV, splice, eqSV, fitsL, eqCells, eqCell, minmaxV, capV, binBV, nilCheckV, bytesV, V.cells, V.stays, a1]
  refine RetV.pure (s1.updK f1) rfl
/-- a style for another one -/
def restyle (l : List Nd) (p : Nat) (s : Sty) : List Nd := match l[p]? with
  | some x => l.set p { x with st := s }
  | none => l
theorem restyle_length (l : List Nd) (p : Nat) (s : Sty) : (restyle l p s).length = l.length := by
  unfold restyle
  split <;> simp
def styleR (l : List Nd) (x : Ed) : Option (List Nd) :=
  if blockR l x.pos = false ∨ x.into ≠ 0 ∨ x.many ≠ 0 ∨ 0 < x.sub.length then none else some (restyle l x.pos.toNat x.st)
def optV (o : Option (List Nd)) : V := encNs (o.getD [])
set_option maxRecDepth 100000 in
theorem style_c (x : Ed) (l : List Nd) (hl : Sml l) : PFun Try.prog 69 [encH x l] (.tup [optV (styleR l x), .bool (styleR l x).isSome]) := fun σ => by
  have hl1 := hl.1
  refine Contract.of_runs Try.func69 e69 k69 (by simp [c69]) ?_
  refine Runs.mix 5 ?_
  (refine Runs.of_step Orc.nothing 300 ?_; simp -implicitDefEqProofs only [BB, Int.reduceEq, Int.reduceNe, Int.reduceLT, Int.reduceLE, Int.reduceGT, Int.reduceGE, Nat.reduceEqDiff, Nat.reduceAdd, Nat.reduceMul, Nat.reduceLeDiff, Nat.reduceSub, Nat.reduceLT, Nat.reduceBEq, ↓reduceIte, reduceCtorEq, ← decide_not, okind, vpre, vpure, intBin, intPre, strBin, strPre, popTo, argSlots, fldV, fldAV, subCells, idxVV, idxAAV, idxSV, sliceV, sliceSV, boundV, szIs, storeOp, storeS, setRowV, eff, extV, buildV, splice, eqSV, fitsL, eqCells, eqCell, minmaxV, capV, binBV, nilCheckV, bytesV, V.cells, V.stays, Orc.nothing, c69, encH, encNs_cells, encNs_stays])
  refine effR_new fun id1 σ1 s1 a1 f1 => ?_
  simp -implicitDefEqProofs only [BB, Int.reduceEq, Int.reduceNe, Int.reduceLT, Int.reduceLE, Int.reduceGT, Int.reduceGE, Nat.reduceEqDiff, Nat.reduceAdd, Nat.reduceMul, Nat.reduceLeDiff, Nat.reduceSub, Nat.reduceLT, Nat.reduceBEq, ↓reduceIte, reduceCtorEq, ← decide_not, okind, vpre, vpure, intBin, intPre, strBin, strPre, popTo, argSlots, fldV, fldAV, subCells, idxVV, idxAAV, idxSV, sliceV, sliceSV, boundV, szIs, storeOp, storeS, setRowV, eff, extV, buildV, splice, eqSV, fitsL, eqCells, eqCell, minmaxV, capV, binBV, nilCheckV, bytesV, V.cells, V.stays, a1, encNs_cells, encNs_stays]
  refine Runs.pcall rfl rfl rfl (block9_c x l _ _) ?_
  have hnone : styleR l x = none → RetV (.tup [.nils, .bool false]) σ1 fun r σ' => r = .tup [optV (styleR l x), .bool (styleR l x).isSome] ∧ σ' = σ := fun h => by
    rw [h]
    exact ⟨_, σ, s1, Wk.tup (by simp only [WkL]; exact ⟨Wk.nils 20, Wk.refl s1 _, trivial⟩), rfl, rfl⟩
  cases hbk : blockR l x.pos
  · (refine Runs.of_step Orc.nothing 300 ?_; simp -implicitDefEqProofs only [BB, Int.reduceEq, Int.reduceNe, Int.reduceLT, Int.reduceLE, Int.reduceGT, Int.reduceGE, Nat.reduceEqDiff, Nat.reduceAdd, Nat.reduceMul, Nat.reduceLeDiff, Nat.reduceSub, Nat.reduceLT, Nat.reduceBEq, ↓reduceIte, reduceCtorEq, ← decide_not, okind, vpre, vpure, intBin, intPre, strBin, strPre, popTo, argSlots, fldV, fldAV, subCells, idxVV, idxAAV, idxSV, sliceV, sliceSV, boundV, szIs, storeOp, storeS, setRowV, eff, extV, buildV, splice, eqSV, fitsL, eqCells, eqCell, minmaxV, capV, binBV, nilCheckV, bytesV, V.cells, V.stays, Orc.nothing, hbk, a1, encNs_cells, encNs_stays])
    refine hnone ?_
    rw [styleR, if_pos (.inl hbk)]
  · (refine Runs.of_step Orc.nothing 300 ?_; simp -implicitDefEqProofs only [BB, Int.reduceEq, Int.reduceNe, Int.reduceLT, Int.reduceLE, Int.reduceGT, Int.reduceGE, Nat.reduceEqDiff, Nat.reduceAdd, Nat.reduceMul, Nat.reduceLeDiff, Nat.reduceSub, Nat.reduceLT, Nat.reduceBEq, ↓reduceIte, reduceCtorEq, ← decide_not, okind, vpre, vpure, intBin, intPre, strBin, strPre, popTo, argSlots, fldV, fldAV, subCells, idxVV, idxAAV, idxSV, sliceV, sliceSV, boundV, szIs, storeOp, storeS, setRowV, eff, extV, buildV, splice, eqSV, fitsL, eqCells, eqCell, minmaxV, capV, binBV, nilCheckV, bytesV, V.cells, V.stays, Orc.nothing, hbk, a1, encNs_cells, encNs_stays, lenV_encNs])
    have hb2 := hbk
    simp only [blockR, Bool.and_eq_true] at hb2
    have hp := hasI_iff.1 hb2.1
    have hlt : x.pos.toNat < l.length := by omega
    refine And.intro (fun c1 => And.intro (fun c2 => And.intro (fun c3 => ?_) (fun c3 => ?_)) (fun c2 => ?_)) (fun c1 => ?_)
    · refine hnone ?_
      rw [styleR, if_pos (.inr (.inr (.inr (by omega))))]
    · have hsome : styleR l x = some (restyle l x.pos.toNat x.st) := by
        rw [styleR, if_neg]
        rintro (h | h | h | h)
        · rw [hbk] at h; cases h
        · omega
        · omega
        · omega
      rw [hsome]
      refine Runs.call rfl rfl rfl (own9_o l hl _) ?_
      rintro r σ2 ⟨hsub, hout⟩
      have a1' := hsub _ _ a1
      rcases hout with ⟨rfl, hr0⟩ | ⟨id, rfl, ho, hk⟩
      · have : l = [] := by cases l with | nil => rfl | cons a b => simp at hr0
        subst this
        simp at hlt
      · rw [List.length_map]
        have hrow : (l.map encN)[x.pos.toNat]? = some (.agg (Nd.cells l[x.pos.toNat])) := by simp [hlt, encN]
        have hc : 0 ≤ x.pos ∧ x.pos < (l.length : Int) := hp
        have hk' : σ1 id = none := hk
        have hid1 : id1 ≠ id := ne_new a1 hk'
        have hre : (restyle l x.pos.toNat x.st).map encN = (l.map encN).set x.pos.toNat (encN { l[x.pos.toNat] with st := x.st }) := by
          rw [restyle]
          simp only [List.getElem?_eq_getElem hlt]
          rw [List.map_set]
        generalize l[x.pos.toNat] = y at *
        simp only [encN, Nd.cells] at hre
        (refine Runs.of_step Orc.nothing 300 ?_; simp -implicitDefEqProofs only [BB, Int.reduceEq, Int.reduceNe, Int.reduceLT, Int.reduceLE, Int.reduceGT, Int.reduceGE, Nat.reduceEqDiff, Nat.reduceAdd, Nat.reduceMul, Nat.reduceLeDiff, Nat.reduceSub, Nat.reduceLT, Nat.reduceBEq, ↓reduceIte, reduceCtorEq, ← decide_not, okind, vpre, vpure, intBin, intPre, strBin, strPre, popTo, argSlots, fldV, fldAV, subCells, idxVV, idxAAV, idxSV, sliceV, sliceSV, boundV, szIs, storeOp, storeS, setRowV, eff, extV, buildV, splice, eqSV, fitsL, eqCells, eqCell, minmaxV, capV, binBV, nilCheckV, bytesV, V.cells, V.stays, Orc.nothing, a1', ho, hc, hrow, Nd.cells, encNs_cells, encNs_stays])
        rw [← hre]
        have hn : l.length = ((restyle l x.pos.toNat x.st).map encN).length := by rw [List.length_map, restyle_length]
        have hs3 : SubStore σ (upd σ2 id ⟨28, 20, (restyle l x.pos.toNat x.st).map encN⟩) := (s1.trans hsub).updK (s1.none hk')
        have hv := (OutV.new (K := σ) (e := 28) (sz := 20) hn (upd_same (σ := σ2) (id := id)) (s1.none hk')).wk (SubStore.refl σ) hs3
        exact ⟨_, σ, hs3, Wk.tup (by simp only [WkL]; exact ⟨hv, Wk.refl hs3 _, trivial⟩), rfl, rfl⟩
    · refine hnone ?_
      rw [styleR, if_pos (.inr (.inr (.inl (by omega))))]
    · refine hnone ?_
      rw [styleR, if_pos (.inr (.inl (by omega)))]
end Go.Vc
namespace Go.Vc
open Go.Proofs
theorem V.cells_agg (vs : List V) : V.cells (.agg vs) = vs := rfl
theorem V.cells_int (k : IntKind) (i : Int) : V.cells (.int k i) = [.int k i] := rfl
theorem V.cells_nils : V.cells .nils = [.nils] := rfl
theorem V.cells_own (a b c : Nat) : V.cells (.own a b c) = [.own a b c] := rfl
theorem V.cells_sl (a : Nat) (b : List V) : V.cells (.sl a b) = [.sl a b] := rfl
theorem V.cells_str (a : List UInt8) : V.cells (.str a) = [.str a] := rfl
theorem V.cells_bool (a : Bool) : V.cells (.bool a) = [.bool a] := rfl
theorem V.cells_fn (a : FuncId) (b : List V) : V.cells (.fn a b) = [.fn a b] := rfl
theorem V.cells_ptr (a b c : Nat) : V.cells (.ptr a b c) = [.ptr a b c] := rfl
theorem V.cells_rp (a : V) : V.cells (.rp a) = [.rp a] := rfl
theorem V.stays_agg (vs : List V) : V.stays (.agg vs) = true := rfl
theorem V.stays_int (k : IntKind) (i : Int) : V.stays (.int k i) = true := rfl
theorem V.stays_nils : V.stays .nils = true := rfl
theorem V.stays_own (a b c : Nat) : V.stays (.own a b c) = true := rfl
theorem V.stays_sl (a : Nat) (b : List V) : V.stays (.sl a b) = true := rfl
theorem V.stays_str (a : List UInt8) : V.stays (.str a) = true := rfl
theorem V.stays_bool (a : Bool) : V.stays (.bool a) = true := rfl
theorem V.stays_fn (a : FuncId) (b : List V) : V.stays (.fn a b) = true := rfl
theorem V.stays_ptr (a b c : Nat) : V.stays (.ptr a b c) = true := rfl
theorem V.stays_rp (a : V) : V.stays (.rp a) = true := rfl
section
variable {P : Program} {n : Nat} {Q : St → Prop} {k : List It}
/-- a call that changes nothing, where orders are free -/
theorem Go.pcall {d : Option Nat} {fx : VX} {xs : List VX} {l : List VIns} {s : Nat → V} {σ : Store} {f : FuncId} {caps : List V} {v : V}
    (hf : fx.ev s = .fn f caps) (hc : PFun P f (xs.map (·.ev s) ++ caps) v) (h : Go P n (.d l k) ⟨putO s d v, σ⟩ Q) :
    Go P n (.d (⟨d, .call fx xs, none⟩ :: l) k) ⟨s, σ⟩ Q := by
  refine T_true (st := ⟨s, σ⟩) (i := ⟨d, .call fx xs, none⟩) rfl ?_
  exact ⟨f, caps, v, hf, fun σ1 _ => hc σ1, h⟩
end
theorem sliceV_from {σ : Store} {l : List Nd} {s : Int} (h1 : 0 ≤ s) (h2 : s ≤ l.length) :
    sliceV σ 20 (encNs l) (some (.int .i64 s)) none none = some (encNs (l.drop s.toNat)) := by
  simp only [encNs, sliceV, boundV, List.length_map]
  rw [if_pos ⟨h1, h2, Int.le_refl _, Int.le_refl _, trivial⟩]
  simp only [V.sl.injEq, Option.some.injEq, true_and]
  rw [List.map_drop, List.take_of_length_le]
  simp
/-- the sizes of these grow -/
def bump (m : Int) (p : Nat) (out : List Nd) : List Nd := match out[p]? with
  | some x => out.set p { x with size := x.size + m }
  | none => out
theorem bump_length (m : Int) (p : Nat) (out : List Nd) : (bump m p out).length = out.length := by
  unfold bump; split <;> simp
theorem bump_get {m : Int} {p i : Nat} {out : List Nd} (h : i ≠ p) : (bump m p out)[i]? = out[i]? := by
  unfold bump; split
  · rw [List.getElem?_set_ne (by omega)]
  · rfl
def bumps (m : Int) : List Int → List Nd → List Nd
  | [], out => out
  | p :: ps, out => bumps m ps (bump m p.toNat out)
theorem bumps_length (m : Int) : ∀ (ps : List Int) (out : List Nd), (bumps m ps out).length = out.length
  | [], _ => rfl
  | p :: ps, out => by rw [bumps, bumps_length m ps, bump_length]
def swapL (l : List Nd) (x : Ed) (to : Int) : List Nd :=
  bumps ((x.sub.length : Int) - (to - x.pos)) (ups l (l.length + 1) x.into) (l.take x.pos.toNat ++ x.sub ++ l.drop to.toNat)
def swapR (l : List Nd) (x : Ed) : Option (List Nd) :=
  if (goneR l x.into x.pos x.many).2.2 = false ∨ isB x.sub = false ∨ x.st ≠ Sty.zero then none else some (swapL l x (goneR l x.into x.pos x.many).2.1)
set_option maxRecDepth 100000 in
theorem swap_c (x : Ed) (l : List Nd) (hl : Sml l) (hb : isB l = true) (hx : Sml x.sub) : PFun Try.prog 68 [encH x l] (.tup [optV (swapR l x), .bool (swapR l x).isSome]) := fun σ => by
  have hl1 := hl.1
  have hx1 := hx.1
  refine Contract.of_runs Try.func68 e68 k68 (by simp [c68]) ?_
  refine Runs.mix 12 ?_
  (refine Runs.of_step Orc.nothing 300 ?_; simp -implicitDefEqProofs only [BB, Int.reduceEq, Int.reduceNe, Int.reduceLT, Int.reduceLE, Int.reduceGT, Int.reduceGE, Nat.reduceEqDiff, Nat.reduceAdd, Nat.reduceMul, Nat.reduceLeDiff, Nat.reduceSub, Nat.reduceLT, Nat.reduceBEq, ↓reduceIte, reduceCtorEq, ← decide_not, okind, vpre, vpure, intBin, intPre, strBin, strPre, popTo, argSlots, fldV, fldAV, subCells, idxVV, idxAAV, idxSV, sliceV, sliceSV, boundV, szIs, storeOp, storeS, setRowV, eff, extV, buildV, splice, eqSV, fitsL, eqCells, eqCell, minmaxV, capV, binBV, nilCheckV, bytesV, V.cells, V.stays, Orc.nothing, c68, encH, encNs_cells, encNs_stays])
  refine effR_new fun id1 σ1 s1 a1 f1 => ?_
  simp -implicitDefEqProofs only [BB, Int.reduceEq, Int.reduceNe, Int.reduceLT, Int.reduceLE, Int.reduceGT, Int.reduceGE, Nat.reduceEqDiff, Nat.reduceAdd, Nat.reduceMul, Nat.reduceLeDiff, Nat.reduceSub, Nat.reduceLT, Nat.reduceBEq, ↓reduceIte, reduceCtorEq, ← decide_not, okind, vpre, vpure, intBin, intPre, strBin, strPre, popTo, argSlots, fldV, fldAV, subCells, idxVV, idxAAV, idxSV, sliceV, sliceSV, boundV, szIs, storeOp, storeS, setRowV, eff, extV, buildV, splice, eqSV, fitsL, eqCells, eqCell, minmaxV, capV, binBV, nilCheckV, bytesV, V.cells, V.stays, a1, encNs_cells, encNs_stays]
  have hnone : swapR l x = none → RetV (.tup [.nils, .bool false]) σ1 fun r σ' => r = .tup [optV (swapR l x), .bool (swapR l x).isSome] ∧ σ' = σ := fun h => by
    rw [h]
    exact ⟨_, σ, s1, Wk.tup (by simp only [WkL]; exact ⟨Wk.nils 20, Wk.refl s1 _, trivial⟩), rfl, rfl⟩
  have hgc := gone_c x l hl.fine hb
  rcases hg : goneR l x.into x.pos x.many with ⟨fr, to, ok⟩
  rw [hg] at hgc
  refine Runs.pcall rfl rfl rfl (hgc _) ?_
  cases ok
  · (refine Runs.of_step Orc.nothing 300 ?_; simp -implicitDefEqProofs only [BB, Int.reduceEq, Int.reduceNe, Int.reduceLT, Int.reduceLE, Int.reduceGT, Int.reduceGE, Nat.reduceEqDiff, Nat.reduceAdd, Nat.reduceMul, Nat.reduceLeDiff, Nat.reduceSub, Nat.reduceLT, Nat.reduceBEq, ↓reduceIte, reduceCtorEq, ← decide_not, okind, vpre, vpure, intBin, intPre, strBin, strPre, popTo, argSlots, fldV, fldAV, subCells, idxVV, idxAAV, idxSV, sliceV, sliceSV, boundV, szIs, storeOp, storeS, setRowV, eff, extV, buildV, splice, eqSV, fitsL, eqCells, eqCell, minmaxV, capV, binBV, nilCheckV, bytesV, V.cells, V.stays, Orc.nothing, a1, encNs_cells, encNs_stays])
    exact hnone (by rw [swapR, if_pos (.inl (by rw [hg]))])
  · (refine Runs.of_step Orc.nothing 300 ?_; simp -implicitDefEqProofs only [BB, Int.reduceEq, Int.reduceNe, Int.reduceLT, Int.reduceLE, Int.reduceGT, Int.reduceGE, Nat.reduceEqDiff, Nat.reduceAdd, Nat.reduceMul, Nat.reduceLeDiff, Nat.reduceSub, Nat.reduceLT, Nat.reduceBEq, ↓reduceIte, reduceCtorEq, ← decide_not, okind, vpre, vpure, intBin, intPre, strBin, strPre, popTo, argSlots, fldV, fldAV, subCells, idxVV, idxAAV, idxSV, sliceV, sliceSV, boundV, szIs, storeOp, storeS, setRowV, eff, extV, buildV, splice, eqSV, fitsL, eqCells, eqCell, minmaxV, capV, binBV, nilCheckV, bytesV, V.cells, V.stays, Orc.nothing, a1, encNs_cells, encNs_stays])
    refine Runs.pcall rfl rfl rfl (isv_c x.sub hx.fine _) ?_
    cases hbs : isB x.sub
    · (refine Runs.of_step Orc.nothing 300 ?_; simp -implicitDefEqProofs only [BB, Int.reduceEq, Int.reduceNe, Int.reduceLT, Int.reduceLE, Int.reduceGT, Int.reduceGE, Nat.reduceEqDiff, Nat.reduceAdd, Nat.reduceMul, Nat.reduceLeDiff, Nat.reduceSub, Nat.reduceLT, Nat.reduceBEq, ↓reduceIte, reduceCtorEq, ← decide_not, okind, vpre, vpure, intBin, intPre, strBin, strPre, popTo, argSlots, fldV, fldAV, subCells, idxVV, idxAAV, idxSV, sliceV, sliceSV, boundV, szIs, storeOp, storeS, setRowV, eff, extV, buildV, splice, eqSV, fitsL, eqCells, eqCell, minmaxV, capV, binBV, nilCheckV, bytesV, V.cells, V.stays, Orc.nothing, a1, encNs_cells, encNs_stays])
      exact hnone (by rw [swapR, if_pos (.inr (.inl hbs))])
    · (refine Runs.of_step Orc.nothing 300 ?_; simp -implicitDefEqProofs only [BB, Int.reduceEq, Int.reduceNe, Int.reduceLT, Int.reduceLE, Int.reduceGT, Int.reduceGE, Nat.reduceEqDiff, Nat.reduceAdd, Nat.reduceMul, Nat.reduceLeDiff, Nat.reduceSub, Nat.reduceLT, Nat.reduceBEq, ↓reduceIte, reduceCtorEq, ← decide_not, okind, vpre, vpure, intBin, intPre, strBin, strPre, popTo, argSlots, fldV, fldAV, subCells, idxVV, idxAAV, idxSV, sliceV, sliceSV, boundV, szIs, storeOp, storeS, setRowV, eff, extV, buildV, splice, eqSV, fitsL, eqCells, eqCell, minmaxV, capV, binBV, nilCheckV, bytesV, V.cells, V.stays, Orc.nothing, a1, encNs_cells, encNs_stays, isZero_eq])
      refine And.intro (fun hz => ?_) (fun hz => ?_)
      · exact hnone (by rw [swapR, if_pos (.inr (.inr hz))])
      · have hz' : x.st = Sty.zero := Classical.not_not.1 hz
        have hsome : swapR l x = some (swapL l x to) := by
          rw [swapR, if_neg]
          · rw [hg]
          · rintro (h | h | h)
            · rw [hg] at h; cases h
            · rw [hbs] at h; cases h
            · exact h hz'
        rw [hsome]
        obtain ⟨rfl, g1, g2, g3, g4, g5, g6, _⟩ := goneR_facts hb hg
        refine Runs.call rfl rfl rfl (own9_o l hl _) ?_
        rintro r σ2 ⟨hsub2, hout⟩
        simp only at hsub2 hout
        have a10 := a1
        have a1 := hsub2 _ _ a1
        have hlen := hout.len
        rw [List.length_map] at hlen
        have hnat : ((x.pos.toNat : Nat) : Int) = x.pos := by omega
        have hpl : x.pos.toNat ≤ l.length := by omega
        have hpre : ∃ v, sliceV σ2 20 r none (some (vI x.pos)) (some (vI x.pos)) = some v ∧ ∃ idA, dstRows σ2 28 20 v = some ((l.take x.pos.toNat).map encN, idA) ∧ SubStore σ1 (delO σ2 idA) := by
          rcases hout with ⟨rfl, hr0⟩ | ⟨id, rfl, ho, hk⟩
          · have hl0 : l = [] := by cases l with | nil => rfl | cons a b => simp at hr0
            subst hl0
            have hp0 : x.pos = 0 := by simp at g3; omega
            rw [hp0]
            exact ⟨.nils, rfl, none, rfl, hsub2⟩
          · refine ⟨.own id 0 x.pos.toNat, ?_, some id, ?_, hsub2.delK hk⟩
            · simp only [sliceV, boundV, szIs, ho, List.length_map]
              rw [if_pos ⟨by omega, by omega, by omega, by omega, by simp⟩]
              simp
            · simp only [dstRows, ho, List.length_map]
              rw [if_pos ⟨trivial, trivial, trivial, hpl⟩, List.map_take]
        obtain ⟨v, hv, idA, hd, hdel⟩ := hpre
        (refine Runs.of_step Orc.nothing 300 ?_; simp -implicitDefEqProofs only [BB, Int.reduceEq, Int.reduceNe, Int.reduceLT, Int.reduceLE, Int.reduceGT, Int.reduceGE, Nat.reduceEqDiff, Nat.reduceAdd, Nat.reduceMul, Nat.reduceLeDiff, Nat.reduceSub, Nat.reduceLT, Nat.reduceBEq, ↓reduceIte, reduceCtorEq, ← decide_not, okind, vpre, vpure, intBin, intPre, strBin, strPre, popTo, argSlots, fldV, fldAV, subCells, idxVV, idxAAV, idxSV, sliceSV, boundV, szIs, storeOp, storeS, setRowV, eff, extV, buildV, splice, eqSV, fitsL, eqCells, eqCell, minmaxV, capV, binBV, nilCheckV, bytesV, V.cells, V.stays, Orc.nothing, a1, encNs_cells, encNs_stays, hv])
        refine Go.pcall rfl (own9_c x.sub hx) ?_
        have hlx : Sml (l.drop to.toNat) := ⟨by simp; omega, fun y hy => hl.2 y (List.mem_of_mem_drop hy)⟩
        have hsrc : ∀ (σ : Store) (l : List Nd), srcRows σ 20 (encNs l) = some (l.map encN) := fun σ l => by simp [encNs, srcRows]
        have hb1 : ((l.take x.pos.toNat).length + x.sub.length) * 177 ≤ 140737488355328 := by simp; omega
        (refine Go.of_step Orc.nothing 300 _ _ ?_; simp -implicitDefEqProofs only [BB, Int.reduceEq, Int.reduceNe, Int.reduceLT, Int.reduceLE, Int.reduceGT, Int.reduceGE, Nat.reduceEqDiff, Nat.reduceAdd, Nat.reduceMul, Nat.reduceLeDiff, Nat.reduceSub, Nat.reduceLT, Nat.reduceBEq, ↓reduceIte, reduceCtorEq, ← decide_not, okind, vpre, vpure, intBin, intPre, strBin, strPre, popTo, argSlots, fldV, fldAV, subCells, idxVV, idxAAV, idxSV, sliceV, sliceSV, boundV, szIs, storeOp, storeS, setRowV, eff, extV, buildV, splice, eqSV, fitsL, eqCells, eqCell, minmaxV, capV, binBV, nilCheckV, bytesV, V.cells, V.stays, Orc.nothing, a1, encNs_cells, encNs_stays, hd, hsrc, List.length_map, hb1])
        refine effD_put fun id2 σ3 s3 a2 f2 => ?_
        have hs3 := hdel.trans s3
        have a1 := hs3 _ _ a10
        have hto : to.toNat ≤ l.length := by omega
        have hsl := fun σ => sliceV_from (σ := σ) (l := l) (s := to) (by omega) g3
        simp -implicitDefEqProofs only [BB, Int.reduceEq, Int.reduceNe, Int.reduceLT, Int.reduceLE, Int.reduceGT, Int.reduceGE, Nat.reduceEqDiff, Nat.reduceAdd, Nat.reduceMul, Nat.reduceLeDiff, Nat.reduceSub, Nat.reduceLT, Nat.reduceBEq, ↓reduceIte, reduceCtorEq, ← decide_not, okind, vpre, vpure, intBin, intPre, strBin, strPre, popTo, argSlots, fldV, fldAV, subCells, idxVV, idxAAV, idxSV, sliceSV, boundV, szIs, storeOp, storeS, setRowV, eff, extV, buildV, splice, eqSV, fitsL, eqCells, eqCell, minmaxV, capV, binBV, nilCheckV, bytesV, V.cells, V.stays, a1, encNs_cells, encNs_stays, hsl]
        refine Go.pcall rfl (own9_c (l.drop to.toNat) hlx) ?_
        have hn2 : (l.take x.pos.toNat).length + x.sub.length = ((l.take x.pos.toNat).map encN ++ x.sub.map encN).length := by simp
        obtain ⟨idB, hd2, hdel2⟩ := (OutV.new (K := σ1) (e := 28) (sz := 20) hn2 a2 (hsub2.none f2)).dst (SubStore.refl _)
        have hb2 : (((l.take x.pos.toNat).length + x.sub.length) + (l.drop to.toNat).length) * 177 ≤ 140737488355328 := by simp; omega
        (refine Go.of_step Orc.nothing 300 _ _ ?_; simp -implicitDefEqProofs only [BB, Int.reduceEq, Int.reduceNe, Int.reduceLT, Int.reduceLE, Int.reduceGT, Int.reduceGE, Nat.reduceEqDiff, Nat.reduceAdd, Nat.reduceMul, Nat.reduceLeDiff, Nat.reduceSub, Nat.reduceLT, Nat.reduceBEq, ↓reduceIte, reduceCtorEq, ← decide_not, okind, vpre, vpure, intBin, intPre, strBin, strPre, popTo, argSlots, fldV, fldAV, subCells, idxVV, idxAAV, idxSV, sliceV, sliceSV, boundV, szIs, storeOp, storeS, setRowV, eff, extV, buildV, splice, eqSV, fitsL, eqCells, eqCell, minmaxV, capV, binBV, nilCheckV, bytesV, V.cells, V.stays, Orc.nothing, a1, encNs_cells, encNs_stays, hd2, hsrc, List.length_map, List.length_append, hb2])
        refine effD_put fun id3 σ4 s4 a3 f3 => ?_
        have hs4 := (hdel2 σ1 (SubStore.refl _) σ3 hs3).trans s4
        have a1 := hs4 _ _ a10
        have hf3 := hs3.none f3
        simp -implicitDefEqProofs only [BB, Int.reduceEq, Int.reduceNe, Int.reduceLT, Int.reduceLE, Int.reduceGT, Int.reduceGE, Nat.reduceEqDiff, Nat.reduceAdd, Nat.reduceMul, Nat.reduceLeDiff, Nat.reduceSub, Nat.reduceLT, Nat.reduceBEq, ↓reduceIte, reduceCtorEq, ← decide_not, okind, vpre, vpure, intBin, intPre, strBin, strPre, popTo, argSlots, fldV, fldAV, subCells, idxVV, idxAAV, idxSV, sliceV, sliceSV, boundV, szIs, storeOp, storeS, setRowV, eff, extV, buildV, splice, eqSV, fitsL, eqCells, eqCell, minmaxV, capV, binBV, nilCheckV, bytesV, V.cells, V.stays, a1, encNs_cells, encNs_stays, lenV_encNs]
        refine ⟨inR_i64 (by omega) (by omega), inR_i64 (by omega) (by omega), ?_⟩
        generalize hm : (x.sub.length : Int) - (to - x.pos) = more at *
        generalize ho0 : l.take x.pos.toNat ++ x.sub ++ l.drop to.toNat = out0 at *
        have hsw : swapL l x to = bumps more (ups l (l.length + 1) x.into) out0 := by rw [swapL, hm, ho0]
        have hrows : (l.take x.pos.toNat).map encN ++ x.sub.map encN ++ (l.drop to.toNat).map encN = out0.map encN := by rw [← ho0]; simp
        have hlen0 : out0.length = (l.take x.pos.toNat).length + x.sub.length + (l.drop to.toNat).length := by rw [← ho0]; simp only [List.length_append]
        have hlen1 : (x.pos : Int) ≤ out0.length := by rw [hlen0]; simp; omega
        have hget0 : ∀ i : Nat, (i : Int) < x.pos → out0[i]? = l[i]? := fun i hi => by
          rw [← ho0, List.append_assoc, List.getElem?_append_left (by simp; omega), List.getElem?_take, if_pos (by omega)]
        rw [hsw]
        refine Runs.loop (fun m st => ∃ (q : Int) (f : Nat) (out : List Nd), m = (q + 1).toNat ∧ -1 ≤ q ∧ q < x.pos ∧ q < f ∧ out.length = out0.length ∧ bumps more (ups l (l.length + 1) x.into) out0 = bumps more (ups l f q) out ∧
          (∀ i : Nat, (i : Int) ≤ q → out[i]? = l[i]?) ∧ SubStore σ1 st.σ ∧ OutV σ1 st.σ 28 20 (st.s 8) (out.map encN) ∧ st.s 1 = .ptr id1 0 0 ∧ st.s 9 = vI more ∧ st.s 10 = vI q) (x.into + 1).toNat ?_ ?_
        · refine ⟨x.into, l.length + 1, out0, rfl, g4, by omega, by omega, rfl, rfl, fun i hi => hget0 i (by omega), hs4, ?_, rfl, rfl, rfl⟩
          exact OutV.new (by simp [hlen0]) (a3.trans (by rw [hrows])) hf3
        · rintro m ⟨s, σ'⟩ ⟨q, f, out, rfl, q1, q2, qf, hol, heq, hget, hsub, hout, h1, h9, h10⟩
          simp only at hsub hout h1 h9 h10
          have a1 := hsub _ _ a10
          refine Runs.mix 12 ?_
          (refine Runs.of_step Orc.nothing 300 ?_; simp -implicitDefEqProofs only [BB, Int.reduceEq, Int.reduceNe, Int.reduceLT, Int.reduceLE, Int.reduceGT, Int.reduceGE, Nat.reduceEqDiff, Nat.reduceAdd, Nat.reduceMul, Nat.reduceLeDiff, Nat.reduceSub, Nat.reduceLT, Nat.reduceBEq, ↓reduceIte, reduceCtorEq, ← decide_not, okind, vpre, vpure, intBin, intPre, strBin, strPre, popTo, argSlots, fldV, fldAV, subCells, idxVV, idxAAV, idxSV, sliceV, sliceSV, boundV, szIs, storeOp, storeS, setRowV, eff, extV, buildV, splice, eqSV, fitsL, eqCells, eqCell, minmaxV, capV, binBV, nilCheckV, bytesV, V.cells, V.stays, Orc.nothing, h1, h9, h10])
          refine And.intro (fun hq => ?_) (fun hq => ?_)
          · obtain ⟨g, rfl, hu⟩ := ups_pos (l := l) (f := f) (by omega : (0:Int) ≤ q) (by omega)
            rw [hu, bumps] at heq
            have hqn : q.toNat < l.length := by omega
            have hqo : q.toNat < out.length := by omega
            have hge := hget q.toNat (by omega)
            rw [List.getElem?_eq_getElem hqn, List.getElem?_eq_getElem hqo] at hge
            have hge : out[q.toNat] = l[q.toNat] := by simpa using hge
            have hsz := szI_bound hb hqn
            have hse := szI_eq hqn
            rcases hout with ⟨hv8, hr0⟩ | ⟨id, hv8, ho, hk⟩
            · have : out = [] := by cases out with | nil => rfl | cons a b => simp at hr0
              rw [this] at hqo; simp at hqo
            · have hrow : (out.map encN)[q.toNat]? = some (.agg (Nd.cells out[q.toNat])) := by simp [hqo, encN]
              have hbu : bump more q.toNat out = out.set q.toNat { out[q.toNat] with size := out[q.toNat].size + more } := by
                rw [bump, List.getElem?_eq_getElem hqo]
              have hc : 0 ≤ q ∧ q < (out.length : Int) := by omega
              have hre : (bump more q.toNat out).map encN = (out.map encN).set q.toNat (encN { out[q.toNat] with size := out[q.toNat].size + more }) := by
                rw [hbu, List.map_set]
              have hszo : out[q.toNat].size = szI l q.toNat := by rw [hge, hse]
              rw [List.length_map] at hv8
              have hne : id1 ≠ id := by
                rintro rfl
                rw [a10] at hk; cases hk
              generalize out[q.toNat] = y at *
              simp only [encN, Nd.cells] at hre
              simp -implicitDefEqProofs only [BB, Int.reduceEq, Int.reduceNe, Int.reduceLT, Int.reduceLE, Int.reduceGT, Int.reduceGE, Nat.reduceEqDiff, Nat.reduceAdd, Nat.reduceMul, Nat.reduceLeDiff, Nat.reduceSub, Nat.reduceLT, Nat.reduceBEq, ↓reduceIte, reduceCtorEq, ← decide_not, okind, vpre, vpure, intBin, intPre, strBin, strPre, popTo, argSlots, fldV, fldAV, subCells, idxVV, idxAAV, idxSV, sliceV, sliceSV, boundV, szIs, storeOp, storeS, setRowV, eff, extV, buildV, splice, eqSV, fitsL, eqCells, eqCell, minmaxV, capV, binBV, nilCheckV, bytesV, V.cells, V.stays, h1, hv8, h9, h10, ho, hc, hrow, Nd.cells, hszo, a1, upd_ne hne, encNs_cells, encNs_stays]
              have hpq := parR_range l q.toNat
              refine ⟨inR_i64 (by omega) (by omega), ?_⟩
              have hpc := parent91_c l hl.fine hb q.toNat hqn
              rw [show ((q.toNat : Nat) : Int) = q by omega] at hpc
              refine Runs.pcall rfl rfl rfl (hpc _) ?_
              (refine Runs.of_step Orc.nothing 300 ?_; simp -implicitDefEqProofs only [BB, Int.reduceEq, Int.reduceNe, Int.reduceLT, Int.reduceLE, Int.reduceGT, Int.reduceGE, Nat.reduceEqDiff, Nat.reduceAdd, Nat.reduceMul, Nat.reduceLeDiff, Nat.reduceSub, Nat.reduceLT, Nat.reduceBEq, ↓reduceIte, reduceCtorEq, ← decide_not, okind, vpre, vpure, intBin, intPre, strBin, strPre, popTo, argSlots, fldV, fldAV, subCells, idxVV, idxAAV, idxSV, sliceV, sliceSV, boundV, szIs, storeOp, storeS, setRowV, eff, extV, buildV, splice, eqSV, fitsL, eqCells, eqCell, minmaxV, capV, binBV, nilCheckV, bytesV, V.cells, V.stays, Orc.nothing])
              rw [hszo] at hre
              rw [← hre]
              have hid1 : σ1 id = none := hk
              refine ⟨_, ?_, parR l q.toNat, g, bump more q.toNat out, rfl, by omega, by omega, by omega, by rw [bump_length, hol], heq, ?_, hsub.updK hid1, ?_, ?_, ?_, ?_⟩
              · omega
              · intro i hi
                exact (bump_get (m := more) (p := q.toNat) (i := i) (out := out) (by omega)).trans (hget i (by omega))
              · rw [hv8]; exact OutV.new (rows := (bump more q.toNat out).map encN) (by rw [List.length_map, bump_length]) upd_same hid1
              all_goals first | exact h1 | exact h9 | rfl | simp
          · have hq1 : q = -1 := by omega
            subst hq1
            rw [ups_neg (p := -1) (by omega), bumps] at heq
            rw [heq]
            have hss := s1.trans hsub
            have hw := hout.wk (K' := σ) s1 hss
            rcases hout with ⟨hv8, hr0⟩ | ⟨id, hv8, ho, hk⟩
            · rw [hv8] at hw
              simp -implicitDefEqProofs only [BB, Int.reduceEq, Int.reduceNe, Int.reduceLT, Int.reduceLE, Int.reduceGT, Int.reduceGE, Nat.reduceEqDiff, Nat.reduceAdd, Nat.reduceMul, Nat.reduceLeDiff, Nat.reduceSub, Nat.reduceLT, Nat.reduceBEq, ↓reduceIte, reduceCtorEq, ← decide_not, okind, vpre, vpure, intBin, intPre, strBin, strPre, popTo, argSlots, fldV, fldAV, subCells, idxVV, idxAAV, idxSV, sliceV, sliceSV, boundV, szIs, storeOp, storeS, setRowV, eff, extV, buildV, splice, eqSV, fitsL, eqCells, eqCell, minmaxV, capV, binBV, nilCheckV, bytesV, V.cells, V.stays, h1, hv8, h9, h10]
              exact ⟨_, σ, hss, Wk.tup (by simp only [WkL]; exact ⟨hw, Wk.refl hss _, trivial⟩), rfl, rfl⟩
            · rw [hv8] at hw
              simp -implicitDefEqProofs only [BB, Int.reduceEq, Int.reduceNe, Int.reduceLT, Int.reduceLE, Int.reduceGT, Int.reduceGE, Nat.reduceEqDiff, Nat.reduceAdd, Nat.reduceMul, Nat.reduceLeDiff, Nat.reduceSub, Nat.reduceLT, Nat.reduceBEq, ↓reduceIte, reduceCtorEq, ← decide_not, okind, vpre, vpure, intBin, intPre, strBin, strPre, popTo, argSlots, fldV, fldAV, subCells, idxVV, idxAAV, idxSV, sliceV, sliceSV, boundV, szIs, storeOp, storeS, setRowV, eff, extV, buildV, splice, eqSV, fitsL, eqCells, eqCell, minmaxV, capV, binBV, nilCheckV, bytesV, V.cells, V.stays, h1, hv8, h9, h10]
              exact ⟨_, σ, hss, Wk.tup (by simp only [WkL]; exact ⟨hw, Wk.refl hss _, trivial⟩), rfl, rfl⟩
end Go.Vc
namespace Go.Vc
open Go.Proofs
theorem restyle_sml {l : List Nd} {p : Nat} {s : Sty} (h : Sml l) : Sml (restyle l p s) := by
  refine ⟨by rw [restyle_length]; exact h.1, fun y hy => ?_⟩
  unfold restyle at hy
  split at hy
  · rename_i x hx
    rcases List.mem_or_eq_of_mem_set hy with hy | rfl
    · exact h.2 y hy
    · exact h.2 x (List.mem_of_getElem? hx)
  · exact h.2 y hy
theorem bump_words {m : Int} {p : Nat} {out : List Nd} {B : Nat} (h : ∀ x ∈ out, x.words.length ≤ B) : ∀ x ∈ bump m p out, x.words.length ≤ B := fun y hy => by
  unfold bump at hy
  split at hy
  · rename_i x hx
    rcases List.mem_or_eq_of_mem_set hy with hy | rfl
    · exact h y hy
    · exact h x (List.mem_of_getElem? hx)
  · exact h y hy
theorem bumps_words {m : Int} {B : Nat} : ∀ {ps : List Int} {out : List Nd}, (∀ x ∈ out, x.words.length ≤ B) → ∀ x ∈ bumps m ps out, x.words.length ≤ B
  | [], _, h => h
  | p :: ps, out, h => bumps_words (ps := ps) (bump_words h)
/-- half as many -/
def Hlf (l : List Nd) : Prop := l.length ≤ 5000 ∧ ∀ x ∈ l, x.words.length ≤ 1000000000
theorem Hlf.sml {l : List Nd} (h : Hlf l) : Sml l := ⟨by have := h.1; omega, h.2⟩
theorem swapL_sml {l : List Nd} {x : Ed} {to : Int} (hl : Hlf l) (hx : Hlf x.sub) (h : x.pos ≤ to) (h0 : 0 ≤ x.pos) : Sml (swapL l x to) := by
  obtain ⟨h1, h2⟩ := hl
  obtain ⟨h3, h4⟩ := hx
  refine ⟨?_, bumps_words fun y hy => ?_⟩
  · rw [swapL, bumps_length]; simp; omega
  · simp only [List.mem_append] at hy
    rcases hy with (hy | hy) | hy
    · exact h2 y (List.mem_of_mem_take hy)
    · exact h4 y hy
    · exact h2 y (List.mem_of_mem_drop hy)
/-- by the kind -/
def outR (l : List Nd) (x : Ed) : Option (List Nd) := if x.kind = 1 then swapR l x else styleR l x
def doR (l : List Nd) (x : Ed) : Option (List Nd) :=
  if isB l = false ∨ x.kind < 1 ∨ 2 < x.kind then none else
  match outR l x with
  | none => none
  | some out => if isB out = true then some out else none
def errV {α : Type} (o : Option α) : V := if o.isSome then vI 0 else vI 4
theorem outR_sml {l out : List Nd} {x : Ed} (hl : Hlf l) (hb : isB l = true) (hx : Hlf x.sub) (h : outR l x = some out) : Sml out := by
  unfold outR at h
  split at h
  · rw [swapR] at h
    split at h
    · cases h
    · rename_i hn
      simp only [Option.some.injEq] at h
      subst h
      have h1 : (goneR l x.into x.pos x.many).2.2 = true := by
        cases hh : (goneR l x.into x.pos x.many).2.2
        · exact absurd (.inl hh) hn
        · rfl
      rcases hg : goneR l x.into x.pos x.many with ⟨fr, to, ok⟩
      rw [hg] at h1
      simp only at h1
      subst h1
      obtain ⟨rfl, g1, g2, g3, g4, _⟩ := goneR_facts hb hg
      exact swapL_sml hl hx g2 (by omega)
  · rw [styleR] at h
    split at h
    · cases h
    · simp only [Option.some.injEq] at h
      subst h
      exact restyle_sml hl.sml
set_option maxRecDepth 100000 in
theorem do_c (l : List Nd) (x : Ed) (hl : Hlf l) (hx : Hlf x.sub) : PFun Try.prog 20 [encNs l, encE x] (.tup [optV (doR l x), errV (doR l x)]) := fun σ => by
  have hl1 := hl.1
  refine Contract.of_runs Try.func20 e20 k20 (by simp [c20]) ?_
  refine Runs.mix 8 ?_
  (refine Runs.of_step Orc.nothing 300 ?_; simp -implicitDefEqProofs only [BB, Int.reduceEq, Int.reduceNe, Int.reduceLT, Int.reduceLE, Int.reduceGT, Int.reduceGE, Nat.reduceEqDiff, Nat.reduceAdd, Nat.reduceMul, Nat.reduceLeDiff, Nat.reduceSub, Nat.reduceLT, Nat.reduceBEq, ↓reduceIte, reduceCtorEq, ← decide_not, okind, vpre, vpure, intBin, intPre, strBin, strPre, popTo, argSlots, fldV, fldAV, subCells, idxVV, idxAAV, idxSV, sliceV, sliceSV, boundV, szIs, storeOp, storeS, setRowV, eff, extV, buildV, splice, eqSV, fitsL, eqCells, eqCell, minmaxV, capV, binBV, nilCheckV, bytesV, V.cells, V.stays, Orc.nothing, c20, encE, Ed.cells, encNs_cells, encNs_stays])
  refine effR_new fun id1 σ1 s1 a1 f1 => ?_
  simp -implicitDefEqProofs only [BB, Int.reduceEq, Int.reduceNe, Int.reduceLT, Int.reduceLE, Int.reduceGT, Int.reduceGE, Nat.reduceEqDiff, Nat.reduceAdd, Nat.reduceMul, Nat.reduceLeDiff, Nat.reduceSub, Nat.reduceLT, Nat.reduceBEq, ↓reduceIte, reduceCtorEq, ← decide_not, okind, vpre, vpure, intBin, intPre, strBin, strPre, popTo, argSlots, fldV, fldAV, subCells, idxVV, idxAAV, idxSV, sliceV, sliceSV, boundV, szIs, storeOp, storeS, setRowV, eff, extV, buildV, splice, eqSV, fitsL, eqCells, eqCell, minmaxV, capV, binBV, nilCheckV, bytesV, V.cells, V.stays, a1, encNs_cells, encNs_stays]
  have hnone : doR l x = none → RetV (.tup [.nils, vI 4]) σ1 fun r σ' => r = .tup [optV (doR l x), errV (doR l x)] ∧ σ' = σ := fun h => by
    rw [h]
    exact ⟨_, σ, s1, Wk.tup (by simp only [WkL]; exact ⟨Wk.nils 20, Wk.refl s1 _, trivial⟩), rfl, rfl⟩
  refine Runs.pcall rfl rfl rfl (isv_c l hl.sml.fine _) ?_
  cases hb : isB l
  · (refine Runs.of_step Orc.nothing 300 ?_; simp -implicitDefEqProofs only [BB, Int.reduceEq, Int.reduceNe, Int.reduceLT, Int.reduceLE, Int.reduceGT, Int.reduceGE, Nat.reduceEqDiff, Nat.reduceAdd, Nat.reduceMul, Nat.reduceLeDiff, Nat.reduceSub, Nat.reduceLT, Nat.reduceBEq, ↓reduceIte, reduceCtorEq, ← decide_not, okind, vpre, vpure, intBin, intPre, strBin, strPre, popTo, argSlots, fldV, fldAV, subCells, idxVV, idxAAV, idxSV, sliceV, sliceSV, boundV, szIs, storeOp, storeS, setRowV, eff, extV, buildV, splice, eqSV, fitsL, eqCells, eqCell, minmaxV, capV, binBV, nilCheckV, bytesV, V.cells, V.stays, Orc.nothing, a1, encNs_cells, encNs_stays])
    exact hnone (by rw [doR, if_pos (.inl hb)])
  · (refine Runs.of_step Orc.nothing 300 ?_; simp -implicitDefEqProofs only [BB, Int.reduceEq, Int.reduceNe, Int.reduceLT, Int.reduceLE, Int.reduceGT, Int.reduceGE, Nat.reduceEqDiff, Nat.reduceAdd, Nat.reduceMul, Nat.reduceLeDiff, Nat.reduceSub, Nat.reduceLT, Nat.reduceBEq, ↓reduceIte, reduceCtorEq, ← decide_not, okind, vpre, vpure, intBin, intPre, strBin, strPre, popTo, argSlots, fldV, fldAV, subCells, idxVV, idxAAV, idxSV, sliceV, sliceSV, boundV, szIs, storeOp, storeS, setRowV, eff, extV, buildV, splice, eqSV, fitsL, eqCells, eqCell, minmaxV, capV, binBV, nilCheckV, bytesV, V.cells, V.stays, Orc.nothing, a1, encNs_cells, encNs_stays])
    refine And.intro (fun c1 => And.intro (fun c2 => hnone (by rw [doR, if_pos (.inr (.inr (by omega)))])) (fun c2 => ?_)) (fun c1 => hnone (by rw [doR, if_pos (.inr (.inl (by omega)))]))
    refine Go.pcall rfl outcomes_c ?_
    have hdo : doR l x = match outR l x with
      | none => none
      | some out => if isB out = true then some out else none := by
      rw [doR, if_neg]
      rintro (h | h | h)
      · rw [hb] at h; cases h
      · omega
      · omega
    have key : ∃ f, (x.kind = 1 ∧ f = 68 ∨ x.kind = 2 ∧ f = 69) ∧ PFun Try.prog f [encH x l] (.tup [optV (outR l x), .bool (outR l x).isSome]) := by
      by_cases hk : x.kind = 1
      · exact ⟨68, .inl ⟨hk, rfl⟩, by rw [outR, if_pos hk]; exact swap_c x l hl.sml hb hx.sml⟩
      · exact ⟨69, .inr ⟨by omega, rfl⟩, by rw [outR, if_neg hk]; exact style_c x l hl.sml⟩
    obtain ⟨f, hf, hfc⟩ := key
    have hidx : idxVV false 3 1 (.agg [.nilfn, .fn 68 [], .fn 69 []]) (.int .i64 x.kind) = some (.fn f []) := by
      rcases hf with ⟨hk, rfl⟩ | ⟨hk, rfl⟩ <;> rw [hk] <;> rfl
    have hbu : buildV [.int .i64 0, .int .i64 0, .int .i64 0, .int .i64 0, .nils, .int .i64 0, .int .i64 0, .int .i64 0, .int .i64 0, .int .i64 0, .int .i64 0, .int .i64 0, .int .i64 0, .int .i64 0, .int .i64 0, .int .i64 0, .int .i64 0, .nils]
        [(0, 17, encE x), (17, 1, encNs l)] = some [.int .i64 x.kind, .int .i64 x.into, .int .i64 x.pos, .int .i64 x.many, encNs x.sub, .int .i64 x.st.top, .int .i64 x.st.bottom, .int .i64 x.st.padTop, .int .i64 x.st.padBottom, .int .i64 x.st.inset, .int .i64 x.st.orphans, .int .i64 x.st.widows, .int .i64 x.st.head, .int .i64 x.st.before, .int .i64 x.st.after, .int .i64 x.st.inside, .int .i64 x.st.clear, encNs l] := rfl
    simp only [encE, Ed.cells] at hbu
    (refine Go.of_step Orc.nothing 300 _ _ ?_; simp -implicitDefEqProofs only [BB, Int.reduceEq, Int.reduceNe, Int.reduceLT, Int.reduceLE, Int.reduceGT, Int.reduceGE, Nat.reduceEqDiff, Nat.reduceAdd, Nat.reduceMul, Nat.reduceLeDiff, Nat.reduceSub, Nat.reduceLT, Nat.reduceBEq, ↓reduceIte, reduceCtorEq, ← decide_not, okind, vpre, vpure, intBin, intPre, strBin, strPre, popTo, argSlots, fldV, fldAV, subCells, idxAAV, idxSV, sliceV, sliceSV, boundV, szIs, storeOp, storeS, setRowV, eff, extV, splice, eqSV, fitsL, eqCells, eqCell, minmaxV, capV, binBV, nilCheckV, bytesV, V.cells, V.stays, Orc.nothing, a1, encNs_cells, encNs_stays, hidx, hbu])
    refine Go.pcall rfl hfc ?_
    have hsml := fun out (h : outR l x = some out) => outR_sml hl hb hx h
    rw [hdo]
    rw [hdo] at hnone
    generalize outR l x = o at *
    cases o with
    | none =>
      (refine Go.of_step Orc.nothing 300 _ _ ?_; simp -implicitDefEqProofs only [BB, Int.reduceEq, Int.reduceNe, Int.reduceLT, Int.reduceLE, Int.reduceGT, Int.reduceGE, Nat.reduceEqDiff, Nat.reduceAdd, Nat.reduceMul, Nat.reduceLeDiff, Nat.reduceSub, Nat.reduceLT, Nat.reduceBEq, ↓reduceIte, reduceCtorEq, ← decide_not, okind, vpre, vpure, intBin, intPre, strBin, strPre, popTo, argSlots, fldV, fldAV, subCells, idxVV, idxAAV, idxSV, sliceV, sliceSV, boundV, szIs, storeOp, storeS, setRowV, eff, extV, buildV, splice, eqSV, fitsL, eqCells, eqCell, minmaxV, capV, binBV, nilCheckV, bytesV, V.cells, V.stays, Orc.nothing, a1, encNs_cells, encNs_stays, optV, Option.isSome_none, Option.getD_none])
      exact hnone rfl
    | some out =>
      (refine Go.of_step Orc.nothing 300 _ _ ?_; simp -implicitDefEqProofs only [BB, Int.reduceEq, Int.reduceNe, Int.reduceLT, Int.reduceLE, Int.reduceGT, Int.reduceGE, Nat.reduceEqDiff, Nat.reduceAdd, Nat.reduceMul, Nat.reduceLeDiff, Nat.reduceSub, Nat.reduceLT, Nat.reduceBEq, ↓reduceIte, reduceCtorEq, ← decide_not, okind, vpre, vpure, intBin, intPre, strBin, strPre, popTo, argSlots, fldV, fldAV, subCells, idxVV, idxAAV, idxSV, sliceV, sliceSV, boundV, szIs, storeOp, storeS, setRowV, eff, extV, buildV, splice, eqSV, fitsL, eqCells, eqCell, minmaxV, capV, binBV, nilCheckV, bytesV, V.cells, V.stays, Orc.nothing, a1, encNs_cells, encNs_stays, optV, Option.isSome_some, Option.getD_some])
      refine Runs.pcall rfl rfl rfl (isv_c out (hsml out rfl).fine _) ?_
      simp only at hnone ⊢
      cases hbo : isB out
      · rw [hbo] at hnone
        (refine Runs.of_step Orc.nothing 300 ?_; simp -implicitDefEqProofs only [BB, Int.reduceEq, Int.reduceNe, Int.reduceLT, Int.reduceLE, Int.reduceGT, Int.reduceGE, Nat.reduceEqDiff, Nat.reduceAdd, Nat.reduceMul, Nat.reduceLeDiff, Nat.reduceSub, Nat.reduceLT, Nat.reduceBEq, ↓reduceIte, reduceCtorEq, ← decide_not, okind, vpre, vpure, intBin, intPre, strBin, strPre, popTo, argSlots, fldV, fldAV, subCells, idxVV, idxAAV, idxSV, sliceV, sliceSV, boundV, szIs, storeOp, storeS, setRowV, eff, extV, buildV, splice, eqSV, fitsL, eqCells, eqCell, minmaxV, capV, binBV, nilCheckV, bytesV, V.cells, V.stays, Orc.nothing, a1])
        exact hnone (by simp)
      · (refine Runs.of_step Orc.nothing 300 ?_; simp -implicitDefEqProofs only [BB, Int.reduceEq, Int.reduceNe, Int.reduceLT, Int.reduceLE, Int.reduceGT, Int.reduceGE, Nat.reduceEqDiff, Nat.reduceAdd, Nat.reduceMul, Nat.reduceLeDiff, Nat.reduceSub, Nat.reduceLT, Nat.reduceBEq, ↓reduceIte, reduceCtorEq, ← decide_not, okind, vpre, vpure, intBin, intPre, strBin, strPre, popTo, argSlots, fldV, fldAV, subCells, idxVV, idxAAV, idxSV, sliceV, sliceSV, boundV, szIs, storeOp, storeS, setRowV, eff, extV, buildV, splice, eqSV, fitsL, eqCells, eqCell, minmaxV, capV, binBV, nilCheckV, bytesV, V.cells, V.stays, Orc.nothing, a1])
        exact RetV.pure s1 rfl
end Go.Vc
namespace Go.Vc
open Go.Proofs
def Ed.zero : Ed := ⟨0, 0, 0, 0, [], Sty.zero⟩
def stI (l : List Nd) (i : Nat) : Sty := ((l[i]?).map Nd.st).getD Sty.zero
theorem stI_eq {l : List Nd} {i : Nat} (h : i < l.length) : stI l i = l[i].st := by simp [stI, List.getElem?_eq_getElem h]
def cutL (l : List Nd) (a e : Int) : List Nd := (l.drop a.toNat).take (e.toNat - a.toNat)
def backR (l : List Nd) (x : Ed) : Ed :=
  if x.kind = 2 then ⟨2, 0, x.pos, 0, [], stI l x.pos.toNat⟩
  else ⟨1, x.into, x.pos, (kidsR x.sub (-1)).length, cutL l x.pos (goneR l x.into x.pos x.many).2.1, Sty.zero⟩
def backC (l : List Nd) (x : Ed) : Ed := if (doR l x).isSome then backR l x else Ed.zero
theorem wk_edN {σ σ' : Store} (h : SubStore σ' σ) (k i p m : Int) (s : Sty) : Wk σ σ' (.agg [.int .i64 k, .int .i64 i, .int .i64 p, .int .i64 m, .nils, .int .i64 s.top, .int .i64 s.bottom, .int .i64 s.padTop, .int .i64 s.padBottom, .int .i64 s.inset, .int .i64 s.orphans, .int .i64 s.widows, .int .i64 s.head, .int .i64 s.before, .int .i64 s.after, .int .i64 s.inside, .int .i64 s.clear]) (encE ⟨k, i, p, m, [], s⟩) := by
  simp only [encE, Ed.cells]
  refine Wk.agg ?_
  simp only [WkL]
  exact ⟨Wk.refl h _, Wk.refl h _, Wk.refl h _, Wk.refl h _, Wk.nils 20, Wk.refl h _, Wk.refl h _, Wk.refl h _, Wk.refl h _, Wk.refl h _, Wk.refl h _, Wk.refl h _, Wk.refl h _, Wk.refl h _, Wk.refl h _, Wk.refl h _, Wk.refl h _, trivial⟩
theorem doR_some {l out : List Nd} {x : Ed} (h : doR l x = some out) : isB l = true ∧ isB out = true ∧ outR l x = some out ∧ (x.kind = 1 ∨ x.kind = 2) := by
  rw [doR] at h
  split at h
  · cases h
  · rename_i hn
    have hb : isB l = true := by
      cases hb : isB l
      · exact absurd (.inl hb) hn
      · rfl
    split at h
    · cases h
    · rename_i o ho
      split at h
      · rename_i hbo
        simp only [Option.some.injEq] at h
        subst h
        exact ⟨hb, hbo, ho, by omega⟩
      · cases h
theorem swapR_some {l out : List Nd} {x : Ed} (h : swapR l x = some out) : ∃ to, goneR l x.into x.pos x.many = (x.pos, to, true) ∧ isB x.sub = true ∧ x.st = Sty.zero ∧ out = swapL l x to := by
  rw [swapR] at h
  split at h
  · cases h
  · rename_i hn
    simp only [Option.some.injEq] at h
    have h1 : (goneR l x.into x.pos x.many).2.2 = true := by
      cases hh : (goneR l x.into x.pos x.many).2.2
      · exact absurd (.inl hh) hn
      · rfl
    have h2 : isB x.sub = true := by
      cases hh : isB x.sub
      · exact absurd (.inr (.inl hh)) hn
      · rfl
    have h3 : x.st = Sty.zero := by
      by_cases hh : x.st = Sty.zero
      · exact hh
      · exact absurd (.inr (.inr hh)) hn
    have hgo : goneR l x.into x.pos x.many = ((goneR l x.into x.pos x.many).1, (goneR l x.into x.pos x.many).2.1, true) := by rw [← h1]
    have h4 : (goneR l x.into x.pos x.many).1 = x.pos := by
      rw [goneR] at h1 ⊢
      split
      · rename_i h5; rw [if_pos h5] at h1; cases h1
      · rename_i h5
        rw [if_neg h5] at h1
        split
        · rename_i h6; rw [if_pos h6] at h1; cases h1
        · rfl
    rw [h4] at hgo
    exact ⟨_, hgo, h2, h3, h.symm⟩
theorem styleR_some {l out : List Nd} {x : Ed} (h : styleR l x = some out) : blockR l x.pos = true ∧ x.into = 0 ∧ x.many = 0 ∧ x.sub = [] ∧ out = restyle l x.pos.toNat x.st := by
  rw [styleR] at h
  split at h
  · cases h
  · rename_i hn
    simp only [Option.some.injEq] at h
    have h1 : blockR l x.pos = true := by
      cases hh : blockR l x.pos
      · exact absurd (.inl hh) hn
      · rfl
    have h2 : x.sub = [] := by
      cases hs : x.sub with
      | nil => rfl
      | cons a b => exact absurd (.inr (.inr (.inr (by simp [hs])))) hn
    exact ⟨h1, by omega, by omega, h2, h.symm⟩
theorem blockR_lt {l : List Nd} {a : Int} (h : blockR l a = true) : 0 ≤ a ∧ a.toNat < l.length ∧ kdI l a.toNat = 1 := by
  simp only [blockR, Bool.and_eq_true, decide_eq_true_eq] at h
  have := hasI_iff.1 h.1
  exact ⟨this.1, by omega, h.2⟩
set_option maxRecDepth 100000 in
theorem back_c (l : List Nd) (x : Ed) (hl : Hlf l) (hx : Hlf x.sub) : PFun Try.prog 21 [encNs l, encE x] (.tup [encE (backC l x), errV (doR l x)]) := fun σ => by
  have hl1 := hl.1
  obtain ⟨res, hres⟩ : ∃ v, v = encE (backC l x) := ⟨_, rfl⟩
  rw [← hres]
  refine Contract.of_runs Try.func21 e21 k21 (by simp [c21]) ?_
  refine Runs.mix 12 ?_
  (refine Runs.of_step Orc.nothing 300 ?_; simp -implicitDefEqProofs only [BB, Int.reduceEq, Int.reduceNe, Int.reduceLT, Int.reduceLE, Int.reduceGT, Int.reduceGE, Nat.reduceEqDiff, Nat.reduceAdd, Nat.reduceMul, Nat.reduceLeDiff, Nat.reduceSub, Nat.reduceLT, Nat.reduceBEq, ↓reduceIte, reduceCtorEq, ← decide_not, okind, vpre, vpure, intBin, intPre, strBin, strPre, popTo, argSlots, fldV, fldAV, subCells, idxVV, idxAAV, idxSV, sliceV, sliceSV, boundV, szIs, storeOp, storeS, setRowV, eff, extV, buildV, splice, eqSV, fitsL, eqCells, eqCell, minmaxV, capV, binBV, nilCheckV, bytesV, V.cells, V.stays, Orc.nothing, c21, encE, Ed.cells, encNs_cells, encNs_stays])
  refine effR_new fun id1 σ1 s1 a1 f1 => ?_
  simp -implicitDefEqProofs only [BB, Int.reduceEq, Int.reduceNe, Int.reduceLT, Int.reduceLE, Int.reduceGT, Int.reduceGE, Nat.reduceEqDiff, Nat.reduceAdd, Nat.reduceMul, Nat.reduceLeDiff, Nat.reduceSub, Nat.reduceLT, Nat.reduceBEq, ↓reduceIte, reduceCtorEq, ← decide_not, okind, vpre, vpure, intBin, intPre, strBin, strPre, popTo, argSlots, fldV, fldAV, subCells, idxVV, idxAAV, idxSV, sliceV, sliceSV, boundV, szIs, storeOp, storeS, setRowV, eff, extV, buildV, splice, eqSV, fitsL, eqCells, eqCell, minmaxV, capV, binBV, nilCheckV, bytesV, V.cells, V.stays, a1, encNs_cells, encNs_stays]
  refine effR_new fun id2 σ2 s2 a2 f2 => ?_
  have n12 := ne_new a1 f2
  have a10 := s2 _ _ a1
  have hs := s1.trans s2
  simp -implicitDefEqProofs only [BB, Int.reduceEq, Int.reduceNe, Int.reduceLT, Int.reduceLE, Int.reduceGT, Int.reduceGE, Nat.reduceEqDiff, Nat.reduceAdd, Nat.reduceMul, Nat.reduceLeDiff, Nat.reduceSub, Nat.reduceLT, Nat.reduceBEq, ↓reduceIte, reduceCtorEq, ← decide_not, okind, vpre, vpure, intBin, intPre, strBin, strPre, popTo, argSlots, fldV, fldAV, subCells, idxVV, idxAAV, idxSV, sliceV, sliceSV, boundV, szIs, storeOp, storeS, setRowV, eff, extV, buildV, splice, eqSV, fitsL, eqCells, eqCell, minmaxV, capV, binBV, nilCheckV, bytesV, V.cells, V.stays, a10, a2, encNs_cells, encNs_stays]
  refine Runs.pcall rfl rfl rfl (do_c l x hl hx _) ?_
  have g2 := s1.none f2
  cases hd : doR l x with
  | none =>
    (refine Runs.of_step Orc.nothing 300 ?_; simp -implicitDefEqProofs only [BB, Int.reduceEq, Int.reduceNe, Int.reduceLT, Int.reduceLE, Int.reduceGT, Int.reduceGE, Nat.reduceEqDiff, Nat.reduceAdd, Nat.reduceMul, Nat.reduceLeDiff, Nat.reduceSub, Nat.reduceLT, Nat.reduceBEq, ↓reduceIte, reduceCtorEq, ← decide_not, okind, vpre, vpure, intBin, intPre, strBin, strPre, popTo, argSlots, fldV, fldAV, subCells, idxVV, idxAAV, idxSV, sliceV, sliceSV, boundV, szIs, storeOp, storeS, setRowV, eff, extV, buildV, splice, eqSV, fitsL, eqCells, eqCell, minmaxV, capV, binBV, nilCheckV, bytesV, V.cells, V.stays, Orc.nothing, errV, optV, Option.isSome_none, Option.getD_none, a10, a2, encNs_cells, encNs_stays])
    have hbc : backC l x = Ed.zero := by rw [backC, hd]; rfl
    rw [hbc] at hres
    have hsf := hs.updK g2 (o := ⟨39, 17, [.agg [.int .i64 0, .int .i64 0, .int .i64 0, .int .i64 0, .nils, .int .i64 0, .int .i64 0, .int .i64 0, .int .i64 0, .int .i64 0, .int .i64 0, .int .i64 0, .int .i64 0, .int .i64 0, .int .i64 0, .int .i64 0, .int .i64 0]]⟩)
    refine ⟨.tup [encE Ed.zero, vI 4], σ, hsf, Wk.tup ?_, by rw [hres], rfl⟩
    simp only [WkL]
    exact ⟨wk_edN hsf 0 0 0 0 Sty.zero, Wk.refl hsf _, trivial⟩
  | some out =>
    have hbc : backC l x = backR l x := by rw [backC, hd]; rfl
    rw [hbc] at hres
    obtain ⟨hb, hbo, hout, hk⟩ := doR_some hd
    (refine Runs.of_step Orc.nothing 300 ?_; simp -implicitDefEqProofs only [BB, Int.reduceEq, Int.reduceNe, Int.reduceLT, Int.reduceLE, Int.reduceGT, Int.reduceGE, Nat.reduceEqDiff, Nat.reduceAdd, Nat.reduceMul, Nat.reduceLeDiff, Nat.reduceSub, Nat.reduceLT, Nat.reduceBEq, ↓reduceIte, reduceCtorEq, ← decide_not, okind, vpre, vpure, intBin, intPre, strBin, strPre, popTo, argSlots, fldV, fldAV, subCells, idxVV, idxAAV, idxSV, sliceV, sliceSV, boundV, szIs, storeOp, storeS, setRowV, eff, extV, splice, eqSV, fitsL, eqCells, eqCell, minmaxV, capV, binBV, nilCheckV, bytesV, Orc.nothing, errV, optV, Option.isSome_some, Option.getD_some, a10, a2, encNs_cells, encNs_stays, V.cells_agg, V.cells_int, V.cells_nils, V.cells_own, V.cells_sl, V.cells_str, V.cells_bool, V.cells_fn, V.cells_ptr, V.cells_rp, V.stays_agg, V.stays_int, V.stays_nils, V.stays_own, V.stays_sl, V.stays_str, V.stays_bool, V.stays_fn, V.stays_ptr, V.stays_rp])
    refine And.intro (fun hk2 => ?_) (fun hk2 => ?_)
    · rw [outR, if_neg (by omega)] at hout
      obtain ⟨hbl, h1, h2, h3, h4⟩ := styleR_some hout
      obtain ⟨hp0, hp, _⟩ := blockR_lt hbl
      have hx := idxAV_encNsI (σ := σ2) hp0 hp
      have hst := stI_eq hp
      have hsb : ∀ (k p : Int) (s : Sty), buildV [.int .i64 0, .int .i64 0, .int .i64 0, .int .i64 0, .nils, .int .i64 0, .int .i64 0, .int .i64 0, .int .i64 0, .int .i64 0, .int .i64 0, .int .i64 0, .int .i64 0, .int .i64 0, .int .i64 0, .int .i64 0, .int .i64 0]
          [(0, 1, .int .i64 k), (2, 1, .int .i64 p), (5, 12, .agg [vI s.top, vI s.bottom, vI s.padTop, vI s.padBottom, vI s.inset, vI s.orphans, vI s.widows, vI s.head, vI s.before, vI s.after, vI s.inside, vI s.clear])] = some [.int .i64 k, .int .i64 0, .int .i64 p, .int .i64 0, .nils, .int .i64 s.top, .int .i64 s.bottom, .int .i64 s.padTop, .int .i64 s.padBottom, .int .i64 s.inset, .int .i64 s.orphans, .int .i64 s.widows, .int .i64 s.head, .int .i64 s.before, .int .i64 s.after, .int .i64 s.inside, .int .i64 s.clear] := fun _ _ _ => rfl
      rw [hk2]
      simp -implicitDefEqProofs only [BB, Int.reduceEq, Int.reduceNe, Int.reduceLT, Int.reduceLE, Int.reduceGT, Int.reduceGE, Nat.reduceEqDiff, Nat.reduceAdd, Nat.reduceMul, Nat.reduceLeDiff, Nat.reduceSub, Nat.reduceLT, Nat.reduceBEq, ↓reduceIte, reduceCtorEq, ← decide_not, okind, vpre, vpure, intBin, intPre, strBin, strPre, popTo, argSlots, fldV, fldAV, subCells, idxVV, idxAAV, idxSV, sliceV, sliceSV, boundV, szIs, storeOp, storeS, setRowV, eff, extV, splice, eqSV, fitsL, eqCells, eqCell, minmaxV, capV, binBV, nilCheckV, bytesV, hx, Nd.cells, hst, hsb, a10, a2, encNs_cells, encNs_stays, V.cells_agg, V.cells_int, V.cells_nils, V.cells_own, V.cells_sl, V.cells_str, V.cells_bool, V.cells_fn, V.cells_ptr, V.cells_rp, V.stays_agg, V.stays_int, V.stays_nils, V.stays_own, V.stays_sl, V.stays_str, V.stays_bool, V.stays_fn, V.stays_ptr, V.stays_rp, hk2]
      have hbk : backR l x = ⟨2, 0, x.pos, 0, [], stI l x.pos.toNat⟩ := by rw [backR, if_pos hk2]
      rw [hbk] at hres
      rw [hst] at hres
      refine ⟨_, σ, ?_, Wk.tup ?_, by rw [hres], rfl⟩
      · exact hs.updK g2
      · simp only [WkL]
        exact ⟨wk_edN (hs.updK g2) 2 0 x.pos 0 _, Wk.refl (hs.updK g2) _, trivial⟩
    · have hk1 : x.kind = 1 := by omega
      rw [outR, if_pos hk1] at hout
      obtain ⟨to, hg, hbs, hz, ho⟩ := swapR_some hout
      have hbk : backR l x = ⟨1, x.into, x.pos, (kidsR x.sub (-1)).length, cutL l x.pos to, Sty.zero⟩ := by rw [backR, if_neg (by omega), hg]
      rw [hbk] at hres
      have hgc := gone_c x l hl.sml.fine hb
      rw [hg] at hgc
      obtain ⟨_, e1, e2, e3, _⟩ := goneR_facts hb hg
      have hbu : buildV [.int .i64 0, .int .i64 0, .int .i64 0, .int .i64 0, .nils, .int .i64 0, .int .i64 0, .int .i64 0, .int .i64 0, .int .i64 0, .int .i64 0, .int .i64 0, .int .i64 0, .int .i64 0, .int .i64 0, .int .i64 0, .int .i64 0, .nils]
          [(0, 17, encE x), (17, 1, encNs l)] = some [.int .i64 x.kind, .int .i64 x.into, .int .i64 x.pos, .int .i64 x.many, encNs x.sub, .int .i64 x.st.top, .int .i64 x.st.bottom, .int .i64 x.st.padTop, .int .i64 x.st.padBottom, .int .i64 x.st.inset, .int .i64 x.st.orphans, .int .i64 x.st.widows, .int .i64 x.st.head, .int .i64 x.st.before, .int .i64 x.st.after, .int .i64 x.st.inside, .int .i64 x.st.clear, encNs l] := rfl
      simp only [encE, Ed.cells] at hbu
      simp -implicitDefEqProofs only [BB, Int.reduceEq, Int.reduceNe, Int.reduceLT, Int.reduceLE, Int.reduceGT, Int.reduceGE, Nat.reduceEqDiff, Nat.reduceAdd, Nat.reduceMul, Nat.reduceLeDiff, Nat.reduceSub, Nat.reduceLT, Nat.reduceBEq, ↓reduceIte, reduceCtorEq, ← decide_not, okind, vpre, vpure, intBin, intPre, strBin, strPre, popTo, argSlots, fldV, fldAV, subCells, idxVV, idxAAV, idxSV, sliceV, sliceSV, boundV, szIs, storeOp, storeS, setRowV, eff, extV, splice, eqSV, fitsL, eqCells, eqCell, minmaxV, capV, binBV, nilCheckV, bytesV, hbu, a10, a2, encNs_cells, encNs_stays, V.cells_agg, V.cells_int, V.cells_nils, V.cells_own, V.cells_sl, V.cells_str, V.cells_bool, V.cells_fn, V.cells_ptr, V.cells_rp, V.stays_agg, V.stays_int, V.stays_nils, V.stays_own, V.stays_sl, V.stays_str, V.stays_bool, V.stays_fn, V.stays_ptr, V.stays_rp]
      refine Runs.pcall rfl rfl rfl (hgc _) ?_
      (refine Runs.of_step Orc.nothing 300 ?_; simp -implicitDefEqProofs only [BB, Int.reduceEq, Int.reduceNe, Int.reduceLT, Int.reduceLE, Int.reduceGT, Int.reduceGE, Nat.reduceEqDiff, Nat.reduceAdd, Nat.reduceMul, Nat.reduceLeDiff, Nat.reduceSub, Nat.reduceLT, Nat.reduceBEq, ↓reduceIte, reduceCtorEq, ← decide_not, okind, vpre, vpure, intBin, intPre, strBin, strPre, popTo, argSlots, fldV, fldAV, subCells, idxVV, idxAAV, idxSV, sliceV, sliceSV, boundV, szIs, storeOp, storeS, setRowV, eff, extV, buildV, splice, eqSV, fitsL, eqCells, eqCell, minmaxV, capV, binBV, nilCheckV, bytesV, Orc.nothing, a10, a2, encNs_cells, encNs_stays, V.cells_agg, V.cells_int, V.cells_nils, V.cells_own, V.cells_sl, V.cells_str, V.cells_bool, V.cells_fn, V.cells_ptr, V.cells_rp, V.stays_agg, V.stays_int, V.stays_nils, V.stays_own, V.stays_sl, V.stays_str, V.stays_bool, V.stays_fn, V.stays_ptr, V.stays_rp])
      refine Go.pcall rfl (tops_c x.sub hx.sml.fine hbs) ?_
      have hsl := fun σ => sliceV_encNs (σ := σ) (l := l) (s := x.pos) (e := to) (by omega) e2 e3
      have hcut : (l.drop x.pos.toNat).take (to.toNat - x.pos.toNat) = cutL l x.pos to := rfl
      rw [hcut] at hsl
      have hlc : Sml (cutL l x.pos to) := ⟨by rw [cutL]; simp; omega, fun y hy => hl.2 y (List.mem_of_mem_drop (List.mem_of_mem_take hy))⟩
      (refine Go.of_step Orc.nothing 300 _ _ ?_; simp -implicitDefEqProofs only [BB, Int.reduceEq, Int.reduceNe, Int.reduceLT, Int.reduceLE, Int.reduceGT, Int.reduceGE, Nat.reduceEqDiff, Nat.reduceAdd, Nat.reduceMul, Nat.reduceLeDiff, Nat.reduceSub, Nat.reduceLT, Nat.reduceBEq, ↓reduceIte, reduceCtorEq, ← decide_not, okind, vpre, vpure, intBin, intPre, strBin, strPre, popTo, argSlots, fldV, fldAV, subCells, idxVV, idxAAV, idxSV, sliceSV, boundV, szIs, storeOp, storeS, setRowV, eff, extV, buildV, splice, eqSV, fitsL, eqCells, eqCell, minmaxV, capV, binBV, nilCheckV, bytesV, Orc.nothing, a10, a2, encNs_cells, encNs_stays, V.cells_agg, V.cells_int, V.cells_nils, V.cells_own, V.cells_sl, V.cells_str, V.cells_bool, V.cells_fn, V.cells_ptr, V.cells_rp, V.stays_agg, V.stays_int, V.stays_nils, V.stays_own, V.stays_sl, V.stays_str, V.stays_bool, V.stays_fn, V.stays_ptr, V.stays_rp, hsl])
      refine Go.pcall rfl (own9_c (cutL l x.pos to) hlc) ?_
      have hsb : ∀ (k i p m : Int) (s : List Nd), buildV [.int .i64 0, .int .i64 0, .int .i64 0, .int .i64 0, .nils, .int .i64 0, .int .i64 0, .int .i64 0, .int .i64 0, .int .i64 0, .int .i64 0, .int .i64 0, .int .i64 0, .int .i64 0, .int .i64 0, .int .i64 0, .int .i64 0]
          [(0, 1, .int .i64 k), (1, 1, .int .i64 i), (2, 1, .int .i64 p), (3, 1, .int .i64 m), (4, 1, encNs s)] = some [.int .i64 k, .int .i64 i, .int .i64 p, .int .i64 m, encNs s, .int .i64 0, .int .i64 0, .int .i64 0, .int .i64 0, .int .i64 0, .int .i64 0, .int .i64 0, .int .i64 0, .int .i64 0, .int .i64 0, .int .i64 0, .int .i64 0] := fun _ _ _ _ _ => rfl
      (refine Go.of_step Orc.nothing 300 _ _ ?_; simp -implicitDefEqProofs only [BB, Int.reduceEq, Int.reduceNe, Int.reduceLT, Int.reduceLE, Int.reduceGT, Int.reduceGE, Nat.reduceEqDiff, Nat.reduceAdd, Nat.reduceMul, Nat.reduceLeDiff, Nat.reduceSub, Nat.reduceLT, Nat.reduceBEq, ↓reduceIte, reduceCtorEq, ← decide_not, okind, vpre, vpure, intBin, intPre, strBin, strPre, popTo, argSlots, fldV, fldAV, subCells, idxVV, idxAAV, idxSV, sliceV, sliceSV, boundV, szIs, storeOp, storeS, setRowV, eff, extV, splice, eqSV, fitsL, eqCells, eqCell, minmaxV, capV, binBV, nilCheckV, bytesV, Orc.nothing, a10, a2, encNs_cells, encNs_stays, V.cells_agg, V.cells_int, V.cells_nils, V.cells_own, V.cells_sl, V.cells_str, V.cells_bool, V.cells_fn, V.cells_ptr, V.cells_rp, V.stays_agg, V.stays_int, V.stays_nils, V.stays_own, V.stays_sl, V.stays_str, V.stays_bool, V.stays_fn, V.stays_ptr, V.stays_rp, hsb, hk1])
      exact RetV.pure (hs.updK g2) (by rw [hres]; rfl)
end Go.Vc
namespace Go.Vc
open Go.Proofs
/-- of a size -/
def Len (N : Nat) (l : List Nd) : Prop := l.length ≤ N ∧ ∀ x ∈ l, x.words.length ≤ 1000000000
theorem Len.hlf {N : Nat} {l : List Nd} (h : Len N l) (hN : N ≤ 5000) : Hlf l := ⟨by have := h.1; omega, h.2⟩
end Go.Vc
namespace Go.Vc
open Go.Proofs
def rowsF (l : List Nd) : Nat → Nat → Nat → Bool
  | 0, _, _ => true
  | m + 1, a, e => if a < e then
      match l[a]? with
      | none => false
      | some x => if 1 ≤ x.size ∧ x.size ≤ (e : Int) - a then
          (decide (x.kind = 1) || decide (x.size ≤ 1)) && rowsF l m (a + 1) (a + x.size.toNat) && rowsF l m (a + x.size.toNat) e else false
    else true
theorem rowsF_eq (l : List Nd) : ∀ m a e, e - a < m → rowsF l m a e = rowsB l a e
  | 0, _, _, h => by omega
  | m + 1, a, e, h => by
    rw [rowsF, rowsB]
    by_cases hlt : a < e
    · rw [if_pos hlt, dif_pos hlt]
      cases hx : l[a]? with
      | none => rfl
      | some x =>
        simp only
        by_cases hs : 1 ≤ x.size ∧ x.size ≤ (e : Int) - a
        · rw [if_pos hs, dif_pos hs, rowsF_eq l m _ _ (by omega), rowsF_eq l m _ _ (by omega)]
        · rw [if_neg hs, dif_neg hs]
    · rw [if_neg hlt, dif_neg hlt]
def isBF (l : List Nd) : Bool := l.all Nd.ok && rowsF l (l.length + 1) 0 l.length
theorem isB_F (l : List Nd) : isB l = isBF l := by rw [isB, isBF, rowsF_eq l _ _ _ (by omega)]
def outF (l : List Nd) (x : Ed) : Option (List Nd) :=
  if x.kind = 1 then (if (goneR l x.into x.pos x.many).2.2 = false ∨ isBF x.sub = false ∨ x.st ≠ Sty.zero then none else some (swapL l x (goneR l x.into x.pos x.many).2.1)) else styleR l x
def doF (l : List Nd) (x : Ed) : Option (List Nd) :=
  if isBF l = false ∨ x.kind < 1 ∨ 2 < x.kind then none else
  match outF l x with
  | none => none
  | some out => if isBF out = true then some out else none
theorem doR_F (l : List Nd) (x : Ed) : doR l x = doF l x := by
  have h : outR l x = outF l x := by simp only [outR, outF, swapR, isB_F]
  rw [doR, doF, h]
  all_goals simp only [isB_F]
  all_goals (split <;> first | rfl | (cases outF l x <;> rfl))
end Go.Vc
namespace Go.Vc
open Go.Proofs
/-- the place where a row begins -/
theorem kidsW_head {l : List Nd} {a e : Nat} (hae : a ≤ e) (he : e ≤ l.length) (hr : rowsB l a e = true) : (kidsW l a e ++ [(e : Int)])[0]? = some (a : Int) := by
  by_cases h0 : a = e
  · subst h0; rw [kidsW_nil (Nat.le_refl _)]; rfl
  · have hlt : a < e := by omega
    have hal : a < l.length := by omega
    obtain ⟨y1, y2⟩ := rowsB_ends he hr (Nat.le_refl a) hlt
    rw [kidsW_cons hlt hal (by rw [← szI_eq hal]; exact y2)]
    rfl
end Go.Vc
namespace Go.Vc
open Go.Proofs
/-- a row that is made: its first elements -/
def OutP (K σ : Store) (e sz : Nat) (v : V) (rows : List V) : Prop := (v = .nils ∧ rows = []) ∨ ∃ id all, v = .own id 0 rows.length ∧ σ id = some ⟨e, sz, all⟩ ∧ all.take rows.length = rows ∧ K id = none
theorem OutV.outP {K σ : Store} {e sz : Nat} {v : V} {rows : List V} (h : OutV K σ e sz v rows) : OutP K σ e sz v rows := by
  rcases h with h | ⟨id, h1, h2, h3⟩
  · exact .inl h
  · exact .inr ⟨id, rows, h1, h2, List.take_length, h3⟩
theorem OutP.dst {K σ : Store} {e sz : Nat} {v : V} {rows : List V} (h : OutP K σ e sz v rows) {σ1 : Store} (hs : SubStore σ σ1) :
    ∃ idA, dstRows σ1 e sz v = some (rows, idA) ∧ ∀ K' : Store, SubStore K' K → ∀ σ2, SubStore K' σ2 → SubStore K' (delO σ2 idA) := by
  rcases h with ⟨rfl, rfl⟩ | ⟨id, all, rfl, ho, ht, hk⟩
  · exact ⟨none, rfl, fun _ _ _ h => h⟩
  · refine ⟨some id, ?_, fun K' hK σ2 h => h.delK (hK.none hk)⟩
    have hl : rows.length ≤ all.length := by
      have := congrArg List.length ht
      simp at this; omega
    simp only [dstRows, hs _ _ ho]
    rw [if_pos ⟨trivial, trivial, trivial, hl⟩, ht]
theorem OutP.wk {K σ : Store} {e sz : Nat} {v : V} {rows : List V} (h : OutP K σ e sz v rows) {K' : Store} (hK : SubStore K' K) (hs : SubStore K' σ) : Wk σ K' v (.sl sz rows) := by
  rcases h with ⟨rfl, rfl⟩ | ⟨id, all, rfl, ho, ht, hk⟩
  · exact Wk.nils sz
  · have hl : rows.length ≤ all.length := by
      have := congrArg List.length ht
      simp at this; omega
    have := Wk.own hs ho (hK.none hk) (off := 0) (len := rows.length) (by simpa using hl)
    rw [List.drop_zero, ht] at this
    exact this
theorem OutP.retv {K σ : Store} {e sz : Nat} {v : V} {rows : List V} (h : OutP K σ e sz v rows) (hs : SubStore K σ) {v0 : V} (hv : V.sl sz rows = v0) :
    RetV v σ fun r σ' => r = v0 ∧ σ' = K := ⟨_, K, hs, h.wk (SubStore.refl K) hs, hv, rfl⟩
theorem OutP.mono {K σ σ' : Store} {e sz : Nat} {v : V} {rows : List V} (h : OutP K σ e sz v rows) (hs : SubStore σ σ') : OutP K σ' e sz v rows := by
  rcases h with h | ⟨id, all, h1, h2, h3⟩
  · exact .inl h
  · exact .inr ⟨id, all, h1, hs _ _ h2, h3⟩
set_option maxRecDepth 100000 in
theorem grow_c (n : Nat) (hn : n ≤ 100000000) (σ : Store) : Contract Try.prog 82 [.nils, vI n] σ fun r σ' => SubStore σ σ' ∧ OutP σ σ' 28 20 r [] := by
  refine Contract.of_runs Try.func82 e82 k82 (by simp [c82]) ?_
  refine Runs.mix 5 ?_
  (refine Runs.of_step Orc.nothing 300 ?_; simp -implicitDefEqProofs only [BB, Int.reduceEq, Int.reduceNe, Int.reduceLT, Int.reduceLE, Int.reduceGT, Int.reduceGE, Nat.reduceEqDiff, Nat.reduceAdd, Nat.reduceMul, Nat.reduceLeDiff, Nat.reduceSub, Nat.reduceLT, Nat.reduceBEq, ↓reduceIte, reduceCtorEq, ← decide_not, okind, vpre, vpure, intBin, intPre, strBin, strPre, popTo, argSlots, fldV, fldAV, subCells, idxVV, idxAAV, idxSV, sliceV, sliceSV, boundV, szIs, storeOp, storeS, setRowV, eff, extV, buildV, splice, eqSV, fitsL, eqCells, eqCell, minmaxV, capV, binBV, nilCheckV, bytesV, V.cells, V.stays, Orc.nothing, c82])
  refine And.intro (fun h => by omega) (fun h => ?_)
  refine ⟨inR_i64 (by omega) (by omega), inR_i64 (by omega) (by omega), ?_⟩
  have e1 : (n : Int) - (0 - 0) = n := by omega
  rw [e1]
  refine And.intro (fun h1 => ?_) (fun h1 => ?_)
  · have hb : (0 : Int) < n ∧ (n : Int).toNat * 177 ≤ 140737488355328 := by omega
    simp -implicitDefEqProofs only [BB, Int.reduceEq, Int.reduceNe, Int.reduceLT, Int.reduceLE, Int.reduceGT, Int.reduceGE, Nat.reduceEqDiff, Nat.reduceAdd, Nat.reduceMul, Nat.reduceLeDiff, Nat.reduceSub, Nat.reduceLT, Nat.reduceBEq, ↓reduceIte, reduceCtorEq, ← decide_not, okind, vpre, vpure, intBin, intPre, strBin, strPre, popTo, argSlots, fldV, fldAV, subCells, idxVV, idxAAV, idxSV, sliceV, sliceSV, boundV, szIs, storeOp, storeS, setRowV, eff, extV, buildV, splice, eqSV, fitsL, eqCells, eqCell, minmaxV, capV, binBV, nilCheckV, bytesV, V.cells, V.stays, hb]
    refine effR_new fun id1 σ1 s1 a1 f1 => ?_
    have hsl : sliceV σ1 20 (.own id1 0 n) none (some (.int .i64 0)) none = some (.own id1 0 0) := by
      simp only [sliceV, boundV, szIs, a1]
      rw [if_pos ⟨by omega, by omega, by omega, by omega, by simp⟩]
      simp
    simp -implicitDefEqProofs only [BB, Int.reduceEq, Int.reduceNe, Int.reduceLT, Int.reduceLE, Int.reduceGT, Int.reduceGE, Nat.reduceEqDiff, Nat.reduceAdd, Nat.reduceMul, Nat.reduceLeDiff, Nat.reduceSub, Nat.reduceLT, Nat.reduceBEq, ↓reduceIte, reduceCtorEq, ← decide_not, okind, vpre, vpure, intBin, intPre, strBin, strPre, popTo, argSlots, fldV, fldAV, subCells, idxVV, idxAAV, idxSV, sliceSV, boundV, szIs, storeOp, storeS, setRowV, eff, extV, buildV, splice, eqSV, fitsL, eqCells, eqCell, minmaxV, capV, binBV, nilCheckV, bytesV, V.cells, V.stays, a1, Int.toNat_natCast, hsl]
    refine ⟨_, _, SubStore.refl _, Wk.refl (SubStore.refl _) _, s1, .inr ⟨id1, _, rfl, a1, rfl, f1⟩⟩
  · exact ⟨_, _, SubStore.refl _, Wk.refl (SubStore.refl _) _, SubStore.refl _, .inl ⟨rfl, rfl⟩⟩
/-- rows of nodes -/
def encT (L : List (List Nd)) : V := .sl 1 (L.map encNs)
theorem lenV_encT (L : List (List Nd)) : lenV false (encT L) = some (.int .i64 L.length) := by simp [encT, lenV]
theorem idxAV_encT {σ : Store} {L : List (List Nd)} {i : Nat} (h : i < L.length) : idxAV σ 1 (encT L) (.int .i64 i) = some (.rp (encNs L[i])) := by
  simp [encT, idxAV, h]
theorem loadV_rp_encNs (σ : Store) (l : List Nd) : loadV σ false 1 (.rp (encNs l)) = some (encNs l) := by simp [loadV, encNs, V.cells]
theorem sliceT_pre {σ : Store} {L : List (List Nd)} {s : Int} (h1 : 0 ≤ s) (h2 : s ≤ L.length) :
    sliceV σ 1 (encT L) none (some (.int .i64 s)) none = some (encT (L.take s.toNat)) := by
  simp only [encT, sliceV, boundV, List.length_map]
  rw [if_pos ⟨Int.le_refl _, h1, h2, Int.le_refl _, trivial⟩]
  simp [List.map_take]
theorem sliceT_from {σ : Store} {L : List (List Nd)} {s : Int} (h1 : 0 ≤ s) (h2 : s ≤ L.length) :
    sliceV σ 1 (encT L) (some (.int .i64 s)) none none = some (encT (L.drop s.toNat)) := by
  simp only [encT, sliceV, boundV, List.length_map]
  rw [if_pos ⟨h1, h2, Int.le_refl _, Int.le_refl _, trivial⟩]
  simp only [V.sl.injEq, Option.some.injEq, true_and]
  rw [List.map_drop, List.take_of_length_le]
  simp
set_option maxRecDepth 100000 in
theorem concat_c (L : List (List Nd)) (hL : L.length ≤ 10000) (hl : ∀ l ∈ L, l.length ≤ 10000) : PFun Try.prog 57 [encT L] (encNs L.flatten) := fun σ => by
  have hsum : ∀ i, i ≤ L.length → (L.take i).flatten.length ≤ i * 10000 := fun i hi => by
    induction i with
    | zero => simp
    | succ i ih =>
      rw [List.take_succ_eq_append_getElem (by omega), List.flatten_append, List.length_append]
      have := hl _ (List.getElem_mem (show i < L.length by omega))
      have := ih (by omega)
      simp only [List.flatten_cons, List.flatten_nil, List.append_nil]
      omega
  have hstep : ∀ i (h : i < L.length), (L.take (i + 1)).flatten = (L.take i).flatten ++ L[i] := fun i h => by
    rw [List.take_succ_eq_append_getElem h, List.flatten_append]; simp
  refine Contract.of_runs Try.func57 e57 k57 (by simp [c57]) ?_
  refine Runs.mix 9 ?_
  (refine Runs.of_step Orc.nothing 300 ?_; simp -implicitDefEqProofs only [BB, Int.reduceEq, Int.reduceNe, Int.reduceLT, Int.reduceLE, Int.reduceGT, Int.reduceGE, Nat.reduceEqDiff, Nat.reduceAdd, Nat.reduceMul, Nat.reduceLeDiff, Nat.reduceSub, Nat.reduceLT, Nat.reduceBEq, ↓reduceIte, reduceCtorEq, ← decide_not, okind, vpre, vpure, intBin, intPre, strBin, strPre, popTo, argSlots, fldV, fldAV, subCells, idxVV, idxAAV, idxSV, sliceV, sliceSV, boundV, szIs, storeOp, storeS, setRowV, eff, extV, buildV, splice, eqSV, fitsL, eqCells, eqCell, minmaxV, capV, binBV, nilCheckV, bytesV, V.cells, V.stays, Orc.nothing, c57, lenV_encT])
  refine Runs.loop (fun m st => ∃ i : Nat, i ≤ L.length ∧ m = L.length - i ∧ st.σ = σ ∧ st.s 0 = encT L ∧ st.s 2 = .nils ∧ st.s 3 = vI (L.take i).flatten.length ∧ st.s 9 = encT L ∧ st.s 10 = vI L.length ∧ st.s 11 = vI i) L.length ?_ ?_
  · exact ⟨0, by omega, by omega, rfl, rfl, rfl, rfl, rfl, rfl, rfl⟩
  · rintro m ⟨s, σ'⟩ ⟨i, hi, rfl, hσ, h0, h2, h3, h9, h10, h11⟩
    simp only at hσ h0 h2 h3 h9 h10 h11
    subst hσ
    refine Runs.mix 12 ?_
    (refine Runs.of_step Orc.nothing 300 ?_; simp -implicitDefEqProofs only [BB, Int.reduceEq, Int.reduceNe, Int.reduceLT, Int.reduceLE, Int.reduceGT, Int.reduceGE, Nat.reduceEqDiff, Nat.reduceAdd, Nat.reduceMul, Nat.reduceLeDiff, Nat.reduceSub, Nat.reduceLT, Nat.reduceBEq, ↓reduceIte, reduceCtorEq, ← decide_not, okind, vpre, vpure, intBin, intPre, strBin, strPre, popTo, argSlots, fldV, fldAV, subCells, idxVV, idxAAV, idxSV, sliceV, sliceSV, boundV, szIs, storeOp, storeS, setRowV, eff, extV, buildV, splice, eqSV, fitsL, eqCells, eqCell, minmaxV, capV, binBV, nilCheckV, bytesV, V.cells, V.stays, Orc.nothing, h0, h2, h3, h9, h10, h11])
    refine And.intro (fun hlt => ?_) (fun hge => ?_)
    · have hlt' : i < L.length := by omega
      have hs1 := hsum i hi
      have hs2 := hsum (i + 1) hlt'
      have hst := hstep i hlt'
      have hll := hl _ (List.getElem_mem hlt')
      have hlen : (L.take (i + 1)).flatten.length = (L.take i).flatten.length + L[i].length := by rw [hst, List.length_append]
      simp -implicitDefEqProofs only [BB, Int.reduceEq, Int.reduceNe, Int.reduceLT, Int.reduceLE, Int.reduceGT, Int.reduceGE, Nat.reduceEqDiff, Nat.reduceAdd, Nat.reduceMul, Nat.reduceLeDiff, Nat.reduceSub, Nat.reduceLT, Nat.reduceBEq, ↓reduceIte, reduceCtorEq, ← decide_not, okind, vpre, vpure, intBin, intPre, strBin, strPre, popTo, argSlots, fldV, fldAV, subCells, idxVV, idxAAV, idxSV, sliceV, sliceSV, boundV, szIs, storeOp, storeS, setRowV, eff, extV, buildV, splice, eqSV, fitsL, eqCells, eqCell, minmaxV, capV, binBV, nilCheckV, bytesV, V.cells, V.stays, idxAV_encT hlt', loadV_rp_encNs, lenV_encNs, h0, h2, h3, h9, h10, h11]
      refine ⟨inR_i64 (by omega) (by omega), And.intro (fun h => by omega) (fun h => ⟨inR_i64 (by omega) (by omega), _, ?_, i + 1, by omega, rfl, ?_⟩)⟩
      · omega
      · rw [hlen]
        simp
    · have hie : i = L.length := by omega
      subst hie
      rw [List.take_length]
      have hs0 := hsum L.length (Nat.le_refl _)
      rw [List.take_length] at hs0
      refine Runs.call rfl rfl rfl (grow_c L.flatten.length (by omega) _) ?_
      rintro r σ1 ⟨hsub1, hout1⟩
      simp only at hsub1 hout1
      (refine Runs.of_step Orc.nothing 300 ?_; simp -implicitDefEqProofs only [BB, Int.reduceEq, Int.reduceNe, Int.reduceLT, Int.reduceLE, Int.reduceGT, Int.reduceGE, Nat.reduceEqDiff, Nat.reduceAdd, Nat.reduceMul, Nat.reduceLeDiff, Nat.reduceSub, Nat.reduceLT, Nat.reduceBEq, ↓reduceIte, reduceCtorEq, ← decide_not, okind, vpre, vpure, intBin, intPre, strBin, strPre, popTo, argSlots, fldV, fldAV, subCells, idxVV, idxAAV, idxSV, sliceV, sliceSV, boundV, szIs, storeOp, storeS, setRowV, eff, extV, buildV, splice, eqSV, fitsL, eqCells, eqCell, minmaxV, capV, binBV, nilCheckV, bytesV, V.cells, V.stays, Orc.nothing, h0, h2, h3, h9, h10, h11, lenV_encT])
      refine Runs.loop (fun m st => ∃ i : Nat, i ≤ L.length ∧ m = L.length - i ∧ SubStore σ' st.σ ∧ OutP σ' st.σ 28 20 (st.s 6) ((L.take i).flatten.map encN) ∧ st.s 25 = encT L ∧ st.s 26 = vI L.length ∧ st.s 27 = vI i) L.length ?_ ?_
      · exact ⟨0, by omega, by omega, hsub1, hout1, rfl, rfl, rfl⟩
      · rintro m ⟨s, σ2⟩ ⟨i, hi, rfl, hsub, hout, h25, h26, h27⟩
        simp only at hsub hout h25 h26 h27
        refine Runs.mix 12 ?_
        (refine Runs.of_step Orc.nothing 300 ?_; simp -implicitDefEqProofs only [BB, Int.reduceEq, Int.reduceNe, Int.reduceLT, Int.reduceLE, Int.reduceGT, Int.reduceGE, Nat.reduceEqDiff, Nat.reduceAdd, Nat.reduceMul, Nat.reduceLeDiff, Nat.reduceSub, Nat.reduceLT, Nat.reduceBEq, ↓reduceIte, reduceCtorEq, ← decide_not, okind, vpre, vpure, intBin, intPre, strBin, strPre, popTo, argSlots, fldV, fldAV, subCells, idxVV, idxAAV, idxSV, sliceV, sliceSV, boundV, szIs, storeOp, storeS, setRowV, eff, extV, buildV, splice, eqSV, fitsL, eqCells, eqCell, minmaxV, capV, binBV, nilCheckV, bytesV, V.cells, V.stays, Orc.nothing, h25, h26, h27])
        refine And.intro (fun hlt => ?_) (fun hge => ?_)
        · have hlt' : i < L.length := by omega
          have hs1 := hsum i hi
          have hst := hstep i hlt'
          have hll := hl _ (List.getElem_mem hlt')
          have hsrc : ∀ (σ : Store) (l : List Nd), srcRows σ 20 (encNs l) = some (l.map encN) := fun σ l => by simp [encNs, srcRows]
          obtain ⟨idA, hd, hdel⟩ := hout.dst (SubStore.refl _)
          have hb : ((L.take i).flatten.length + L[i].length) * 177 ≤ 140737488355328 := by omega
          simp -implicitDefEqProofs only [BB, Int.reduceEq, Int.reduceNe, Int.reduceLT, Int.reduceLE, Int.reduceGT, Int.reduceGE, Nat.reduceEqDiff, Nat.reduceAdd, Nat.reduceMul, Nat.reduceLeDiff, Nat.reduceSub, Nat.reduceLT, Nat.reduceBEq, ↓reduceIte, reduceCtorEq, ← decide_not, okind, vpre, vpure, intBin, intPre, strBin, strPre, popTo, argSlots, fldV, fldAV, subCells, idxVV, idxAAV, idxSV, sliceV, sliceSV, boundV, szIs, storeOp, storeS, setRowV, eff, extV, buildV, splice, eqSV, fitsL, eqCells, eqCell, minmaxV, capV, binBV, nilCheckV, bytesV, V.cells, V.stays, idxAV_encT hlt', loadV_rp_encNs, h25, h26, h27, hd, hsrc, List.length_map, hb]
          refine effR_put fun id4 σ4 s4 a4 f4 => ?_
          have hs4 := (hdel σ' (SubStore.refl _) σ2 hsub).trans s4
          simp -implicitDefEqProofs only [BB, Int.reduceEq, Int.reduceNe, Int.reduceLT, Int.reduceLE, Int.reduceGT, Int.reduceGE, Nat.reduceEqDiff, Nat.reduceAdd, Nat.reduceMul, Nat.reduceLeDiff, Nat.reduceSub, Nat.reduceLT, Nat.reduceBEq, ↓reduceIte, reduceCtorEq, ← decide_not, okind, vpre, vpure, intBin, intPre, strBin, strPre, popTo, argSlots, fldV, fldAV, subCells, idxVV, idxAAV, idxSV, sliceV, sliceSV, boundV, szIs, storeOp, storeS, setRowV, eff, extV, buildV, splice, eqSV, fitsL, eqCells, eqCell, minmaxV, capV, binBV, nilCheckV, bytesV, V.cells, V.stays, h25, h26, h27]
          refine ⟨inR_i64 (by omega) (by omega), _, ?_, i + 1, by omega, rfl, hs4, ?_, ?_⟩
          · omega
          · rw [hst, List.map_append]
            exact (OutV.new (by simp only [List.length_append, List.length_map]) a4 (hsub.none f4)).outP
          · simp
        · have hie : i = L.length := by omega
          subst hie
          rw [List.take_length] at hout
          exact hout.retv hsub rfl
end Go.Vc
namespace Go.Vc
open Go.Proofs
def treesR (l : List Nd) : List (List Nd) := (kidsR l (-1)).map fun k => cutL l k (k + szI l k.toNat)
theorem kids_end {l : List Nd} (hb : isB l = true) {k : Int} (h : k ∈ kidsR l (-1)) : 0 ≤ k ∧ k.toNat < l.length ∧ k + szI l k.toNat ≤ l.length ∧ 1 ≤ szI l k.toNat := by
  obtain ⟨h1, h2⟩ := kidsR_mem h
  have hrows : rowsB l 0 l.length = true := by simp only [isB, Bool.and_eq_true] at hb; exact hb.2
  have := rowsB_ends (Nat.le_refl _) hrows (Nat.zero_le k.toNat) h2
  omega
theorem cutL_len {l : List Nd} {a e : Int} : (cutL l a e).length ≤ l.length := by rw [cutL]; simp; omega
theorem treesR_mem {l t : List Nd} (h : t ∈ treesR l) : t.length ≤ l.length ∧ ∀ x ∈ t, x ∈ l := by
  simp only [treesR, List.mem_map] at h
  obtain ⟨k, _, rfl⟩ := h
  exact ⟨cutL_len, fun x hx => List.mem_of_mem_drop (List.mem_of_mem_take hx)⟩
theorem treesR_len (l : List Nd) : (treesR l).length ≤ l.length := by rw [treesR, List.length_map]; exact kidsR_len l (-1)
set_option maxRecDepth 100000 in
theorem trees_c (l : List Nd) (hl : Fine l) (hb : isB l = true) : PFun Try.prog 54 [encNs l] (encT (treesR l)) := fun σ => by
  have hl1 := hl.1
  have hkl := kidsR_len l (-1)
  have hke := fun k (h : k ∈ kidsR l (-1)) => kids_end hb h
  refine Contract.of_runs Try.func54 e54 k54 (by simp [c54]) ?_
  refine Runs.mix 6 ?_
  (refine Runs.of_step Orc.nothing 300 ?_; simp -implicitDefEqProofs only [BB, Int.reduceEq, Int.reduceNe, Int.reduceLT, Int.reduceLE, Int.reduceGT, Int.reduceGE, Nat.reduceEqDiff, Nat.reduceAdd, Nat.reduceMul, Nat.reduceLeDiff, Nat.reduceSub, Nat.reduceLT, Nat.reduceBEq, ↓reduceIte, reduceCtorEq, ← decide_not, okind, vpre, vpure, intBin, intPre, strBin, strPre, popTo, argSlots, fldV, fldAV, subCells, idxVV, idxAAV, idxSV, sliceV, sliceSV, boundV, szIs, storeOp, storeS, setRowV, eff, extV, buildV, splice, eqSV, fitsL, eqCells, eqCell, minmaxV, capV, binBV, nilCheckV, bytesV, V.cells, V.stays, Orc.nothing, c54])
  refine Runs.pcall rfl rfl rfl (kids9_p l hl hb (-1) (.inl rfl) _) ?_
  have hT : encT (treesR l) = .sl 1 ((kidsR l (-1)).map fun k => encNs (cutL l k (k + szI l k.toNat))) := by
    rw [encT, treesR, List.map_map]; rfl
  rw [hT]
  generalize kidsR l (-1) = ks at *
  (refine Runs.of_step Orc.nothing 300 ?_; simp -implicitDefEqProofs only [BB, Int.reduceEq, Int.reduceNe, Int.reduceLT, Int.reduceLE, Int.reduceGT, Int.reduceGE, Nat.reduceEqDiff, Nat.reduceAdd, Nat.reduceMul, Nat.reduceLeDiff, Nat.reduceSub, Nat.reduceLT, Nat.reduceBEq, ↓reduceIte, reduceCtorEq, ← decide_not, okind, vpre, vpure, intBin, intPre, strBin, strPre, popTo, argSlots, fldV, fldAV, subCells, idxVV, idxAAV, idxSV, sliceV, sliceSV, boundV, szIs, storeOp, storeS, setRowV, eff, extV, buildV, splice, eqSV, fitsL, eqCells, eqCell, minmaxV, capV, binBV, nilCheckV, bytesV, V.cells, V.stays, Orc.nothing, lenV_encI])
  refine Runs.loop (fun m st => ∃ i : Nat, i ≤ ks.length ∧ m = ks.length - i ∧ SubStore σ st.σ ∧ OutV σ st.σ 22 1 (st.s 3) ((ks.take i).map fun k => encNs (cutL l k (k + szI l k.toNat))) ∧ st.s 0 = encNs l ∧ st.s 7 = encI ks ∧ st.s 8 = vI ks.length ∧ st.s 9 = vI i) ks.length ?_ ?_
  · exact ⟨0, by omega, by omega, SubStore.refl _, .inl ⟨rfl, rfl⟩, rfl, rfl, rfl, rfl⟩
  · rintro m ⟨s, σ'⟩ ⟨i, hi, rfl, hsub, hout, h0, h7, h8, h9⟩
    simp only at hsub hout h0 h7 h8 h9
    refine Runs.mix 10 ?_
    (refine Runs.of_step Orc.nothing 300 ?_; simp -implicitDefEqProofs only [BB, Int.reduceEq, Int.reduceNe, Int.reduceLT, Int.reduceLE, Int.reduceGT, Int.reduceGE, Nat.reduceEqDiff, Nat.reduceAdd, Nat.reduceMul, Nat.reduceLeDiff, Nat.reduceSub, Nat.reduceLT, Nat.reduceBEq, ↓reduceIte, reduceCtorEq, ← decide_not, okind, vpre, vpure, intBin, intPre, strBin, strPre, popTo, argSlots, fldV, fldAV, subCells, idxVV, idxAAV, idxSV, sliceV, sliceSV, boundV, szIs, storeOp, storeS, setRowV, eff, extV, buildV, splice, eqSV, fitsL, eqCells, eqCell, minmaxV, capV, binBV, nilCheckV, bytesV, V.cells, V.stays, Orc.nothing, h0, h7, h8, h9])
    refine And.intro (fun hlt => ?_) (fun hge => ?_)
    · have hlt' : i < ks.length := by omega
      obtain ⟨g1, g2, g3, g4⟩ := hke _ (List.getElem_mem hlt')
      have hst : (ks.take (i + 1)).map (fun k => encNs (cutL l k (k + szI l k.toNat))) = (ks.take i).map (fun k => encNs (cutL l k (k + szI l k.toNat))) ++ [encNs (cutL l ks[i] (ks[i] + szI l ks[i].toNat))] := by
        rw [List.take_succ_eq_append_getElem hlt', List.map_append]; rfl
      have hx := fun σ => idxAV_encNsI (σ := σ) g1 g2
      have hse := szI_eq g2
      have hsl := fun σ => sliceV_encNs (σ := σ) (l := l) (s := ks[i]) (e := ks[i] + szI l ks[i].toNat) g1 (by omega) g3
      have hcut : (l.drop ks[i].toNat).take ((ks[i] + szI l ks[i].toNat).toNat - ks[i].toNat) = cutL l ks[i] (ks[i] + szI l ks[i].toNat) := rfl
      rw [hcut] at hsl
      simp -implicitDefEqProofs only [BB, Int.reduceEq, Int.reduceNe, Int.reduceLT, Int.reduceLE, Int.reduceGT, Int.reduceGE, Nat.reduceEqDiff, Nat.reduceAdd, Nat.reduceMul, Nat.reduceLeDiff, Nat.reduceSub, Nat.reduceLT, Nat.reduceBEq, ↓reduceIte, reduceCtorEq, ← decide_not, okind, vpre, vpure, intBin, intPre, strBin, strPre, popTo, argSlots, fldV, fldAV, subCells, idxVV, idxAAV, idxSV, sliceSV, boundV, szIs, storeOp, storeS, setRowV, eff, extV, buildV, splice, eqSV, fitsL, eqCells, eqCell, minmaxV, capV, binBV, nilCheckV, bytesV, V.cells, V.stays, idxAV_encI hlt', hx, Nd.cells, h0, h7, h8, h9]
      rw [← hse]
      simp -implicitDefEqProofs only [BB, Int.reduceEq, Int.reduceNe, Int.reduceLT, Int.reduceLE, Int.reduceGT, Int.reduceGE, Nat.reduceEqDiff, Nat.reduceAdd, Nat.reduceMul, Nat.reduceLeDiff, Nat.reduceSub, Nat.reduceLT, Nat.reduceBEq, ↓reduceIte, reduceCtorEq, ← decide_not, okind, vpre, vpure, intBin, intPre, strBin, strPre, popTo, argSlots, fldV, fldAV, subCells, idxVV, idxAAV, idxSV, sliceSV, boundV, szIs, storeOp, storeS, setRowV, eff, extV, buildV, splice, eqSV, fitsL, eqCells, eqCell, minmaxV, capV, binBV, nilCheckV, bytesV, hsl, h0, h7, h8, h9, encNs_cells, encNs_stays, V.cells_agg, V.cells_int, V.cells_nils, V.cells_own, V.cells_sl, V.cells_str, V.cells_bool, V.cells_fn, V.cells_ptr, V.cells_rp, V.stays_agg, V.stays_int, V.stays_nils, V.stays_own, V.stays_sl, V.stays_str, V.stays_bool, V.stays_fn, V.stays_ptr, V.stays_rp]
      refine ⟨inR_i64 (by omega) (by omega), ?_⟩
      refine effR_new fun id1 σ2 s2 a1 f1 => ?_
      obtain ⟨idA, hd, hdel⟩ := hout.dst s2
      have hb2 : (i + 1) * 25 ≤ 140737488355328 := by omega
      have hlt2 : (ks.take i).length = i := by simp; omega
      simp -implicitDefEqProofs only [BB, Int.reduceEq, Int.reduceNe, Int.reduceLT, Int.reduceLE, Int.reduceGT, Int.reduceGE, Nat.reduceEqDiff, Nat.reduceAdd, Nat.reduceMul, Nat.reduceLeDiff, Nat.reduceSub, Nat.reduceLT, Nat.reduceBEq, ↓reduceIte, reduceCtorEq, ← decide_not, okind, vpre, vpure, intBin, intPre, strBin, strPre, popTo, argSlots, fldV, fldAV, subCells, idxVV, idxAAV, idxSV, sliceV, sliceSV, boundV, szIs, storeOp, storeS, setRowV, eff, extV, buildV, splice, eqSV, fitsL, eqCells, eqCell, minmaxV, capV, binBV, nilCheckV, bytesV, V.cells, V.stays, hd, srcOne a1, List.length_map, hlt2, hb2, h0, h7, h8, h9]
      refine effR_put fun id2 σ3 s3 a2 f2 => ?_
      have hs3 := (hdel σ (SubStore.refl σ) σ2 (hsub.trans s2)).trans s3
      simp -implicitDefEqProofs only [BB, Int.reduceEq, Int.reduceNe, Int.reduceLT, Int.reduceLE, Int.reduceGT, Int.reduceGE, Nat.reduceEqDiff, Nat.reduceAdd, Nat.reduceMul, Nat.reduceLeDiff, Nat.reduceSub, Nat.reduceLT, Nat.reduceBEq, ↓reduceIte, reduceCtorEq, ← decide_not, okind, vpre, vpure, intBin, intPre, strBin, strPre, popTo, argSlots, fldV, fldAV, subCells, idxVV, idxAAV, idxSV, sliceV, sliceSV, boundV, szIs, storeOp, storeS, setRowV, eff, extV, buildV, splice, eqSV, fitsL, eqCells, eqCell, minmaxV, capV, binBV, nilCheckV, bytesV, V.cells, V.stays, h0, h7, h8, h9]
      refine ⟨inR_i64 (by omega) (by omega), _, ?_, i + 1, by omega, rfl, hs3, ?_, ?_⟩
      · omega
      · rw [hst]
        exact OutV.new (by simp only [List.length_append, List.length_map, hlt2, List.length_cons, List.length_nil]) a2 ((hsub.trans s2).none f2)
      · simp
    · have hie : i = ks.length := by omega
      subst hie
      rw [List.take_length] at hout
      exact hout.retv hsub rfl
def alikeN (eq : Nat → Bool) : Nat → Nat → Nat
  | 0, n => n
  | f + 1, n => if eq n then alikeN eq f (n + 1) else n
def alikeR (tell : List (List Nd) → Nat → List Nd) (a b : List (List Nd)) : Nat := alikeN (fun n => decide (tell a n = tell b n)) (min a.length b.length) 0
theorem alikeN_le (eq : Nat → Bool) : ∀ f n, n ≤ alikeN eq f n ∧ alikeN eq f n ≤ n + f
  | 0, n => by simp [alikeN]
  | f + 1, n => by
    rw [alikeN]
    split
    · have := alikeN_le eq f (n + 1); omega
    · omega
theorem alikeR_le (tell : List (List Nd) → Nat → List Nd) (a b : List (List Nd)) : alikeR tell a b ≤ a.length ∧ alikeR tell a b ≤ b.length := by
  have := alikeN_le (fun n => decide (tell a n = tell b n)) (min a.length b.length) 0
  rw [alikeR]; omega
set_option maxRecDepth 100000 in
theorem alike_c (tell : List (List Nd) → Nat → List Nd) (g : FuncId) (a b : List (List Nd)) (ha : a.length ≤ 10000) (hb : b.length ≤ 10000)
    (hg : ∀ (L : List (List Nd)) (k : Nat), L.length ≤ 10000 → k < L.length → PFun Try.prog g [encT L, vI k] (encNs (tell L k)))
    (hfa : ∀ k, k < a.length → Fine (tell a k)) (hfb : ∀ k, k < b.length → Fine (tell b k)) : PFun Try.prog 55 [encT a, encT b, .fn g []] (vI (alikeR tell a b)) := fun σ => by
  refine Contract.of_runs Try.func55 e55 k55 (by simp [c55]) ?_
  refine Runs.mix 8 ?_
  (refine Runs.of_step Orc.nothing 300 ?_; simp -implicitDefEqProofs only [BB, Int.reduceEq, Int.reduceNe, Int.reduceLT, Int.reduceLE, Int.reduceGT, Int.reduceGE, Nat.reduceEqDiff, Nat.reduceAdd, Nat.reduceMul, Nat.reduceLeDiff, Nat.reduceSub, Nat.reduceLT, Nat.reduceBEq, ↓reduceIte, reduceCtorEq, ← decide_not, okind, vpre, vpure, intBin, intPre, strBin, strPre, popTo, argSlots, fldV, fldAV, subCells, idxVV, idxAAV, idxSV, sliceV, sliceSV, boundV, szIs, storeOp, storeS, setRowV, eff, extV, buildV, splice, eqSV, fitsL, eqCells, eqCell, minmaxV, capV, binBV, nilCheckV, bytesV, V.cells, V.stays, Orc.nothing, c55])
  have hR : alikeR tell a b = alikeN (fun n => decide (tell a n = tell b n)) (min a.length b.length) 0 := rfl
  rw [hR]
  generalize hN : alikeN (fun n => decide (tell a n = tell b n)) (min a.length b.length) 0 = N at *
  refine Runs.loop (fun m st => ∃ n : Nat, n ≤ min a.length b.length ∧ m = min a.length b.length - n ∧ N = alikeN (fun n => decide (tell a n = tell b n)) m n ∧ st.σ = σ ∧ st.s 0 = encT a ∧ st.s 1 = encT b ∧ st.s 2 = .fn g [] ∧ st.s 7 = vI n) (min a.length b.length) ?_ ?_
  · exact ⟨0, by omega, by omega, hN.symm, rfl, rfl, rfl, rfl, rfl⟩
  · rintro m ⟨s, σ'⟩ ⟨n, hn, hm, heq, hσ, h0, h1, h2, h7⟩
    simp only at hσ h0 h1 h2 h7
    subst hσ
    refine Runs.mix 8 ?_
    (refine Runs.of_step Orc.nothing 300 ?_; simp -implicitDefEqProofs only [BB, Int.reduceEq, Int.reduceNe, Int.reduceLT, Int.reduceLE, Int.reduceGT, Int.reduceGE, Nat.reduceEqDiff, Nat.reduceAdd, Nat.reduceMul, Nat.reduceLeDiff, Nat.reduceSub, Nat.reduceLT, Nat.reduceBEq, ↓reduceIte, reduceCtorEq, ← decide_not, okind, vpre, vpure, intBin, intPre, strBin, strPre, popTo, argSlots, fldV, fldAV, subCells, idxVV, idxAAV, idxSV, sliceV, sliceSV, boundV, szIs, storeOp, storeS, setRowV, eff, extV, buildV, splice, eqSV, fitsL, eqCells, eqCell, minmaxV, capV, binBV, nilCheckV, bytesV, V.cells, V.stays, Orc.nothing, h0, h1, h2, h7, lenV_encT])
    have hmin : (if (b.length : Int) < a.length then (b.length : Int) else a.length) = ((min a.length b.length : Nat) : Int) := by
      split <;> omega
    rw [hmin]
    refine And.intro (fun hlt => ?_) (fun hge => ?_)
    · have hlt' : n < min a.length b.length := by omega
      obtain ⟨k, rfl⟩ : ∃ k, m = k + 1 := ⟨m - 1, by omega⟩
      refine Runs.pcall (f := g) (caps := []) rfl rfl rfl (hg a n ha (by omega) _) ?_
      (refine Runs.of_step Orc.nothing 300 ?_; simp -implicitDefEqProofs only [BB, Int.reduceEq, Int.reduceNe, Int.reduceLT, Int.reduceLE, Int.reduceGT, Int.reduceGE, Nat.reduceEqDiff, Nat.reduceAdd, Nat.reduceMul, Nat.reduceLeDiff, Nat.reduceSub, Nat.reduceLT, Nat.reduceBEq, ↓reduceIte, reduceCtorEq, ← decide_not, okind, vpre, vpure, intBin, intPre, strBin, strPre, popTo, argSlots, fldV, fldAV, subCells, idxVV, idxAAV, idxSV, sliceV, sliceSV, boundV, szIs, storeOp, storeS, setRowV, eff, extV, buildV, splice, eqSV, fitsL, eqCells, eqCell, minmaxV, capV, binBV, nilCheckV, bytesV, V.cells, V.stays, Orc.nothing, h0, h1, h2, h7])
      refine Runs.pcall (f := g) (caps := []) rfl rfl rfl (hg b n hb (by omega) _) ?_
      (refine Runs.of_step Orc.nothing 300 ?_; simp -implicitDefEqProofs only [BB, Int.reduceEq, Int.reduceNe, Int.reduceLT, Int.reduceLE, Int.reduceGT, Int.reduceGE, Nat.reduceEqDiff, Nat.reduceAdd, Nat.reduceMul, Nat.reduceLeDiff, Nat.reduceSub, Nat.reduceLT, Nat.reduceBEq, ↓reduceIte, reduceCtorEq, ← decide_not, okind, vpre, vpure, intBin, intPre, strBin, strPre, popTo, argSlots, fldV, fldAV, subCells, idxVV, idxAAV, idxSV, sliceV, sliceSV, boundV, szIs, storeOp, storeS, setRowV, eff, extV, buildV, splice, eqSV, fitsL, eqCells, eqCell, minmaxV, capV, binBV, nilCheckV, bytesV, V.cells, V.stays, Orc.nothing, h0, h1, h2, h7])
      refine Runs.pcall rfl rfl rfl (same9_c (tell a n) (tell b n) (hfa n (by omega)) (hfb n (by omega)) _) ?_
      rw [alikeN] at heq
      by_cases he : tell a n = tell b n
      · have hd : decide (tell a n = tell b n) = true := decide_eq_true he
        rw [hd] at heq ⊢
        simp only [if_true] at heq
        (refine Runs.of_step Orc.nothing 300 ?_; simp -implicitDefEqProofs only [BB, Int.reduceEq, Int.reduceNe, Int.reduceLT, Int.reduceLE, Int.reduceGT, Int.reduceGE, Nat.reduceEqDiff, Nat.reduceAdd, Nat.reduceMul, Nat.reduceLeDiff, Nat.reduceSub, Nat.reduceLT, Nat.reduceBEq, ↓reduceIte, reduceCtorEq, ← decide_not, okind, vpre, vpure, intBin, intPre, strBin, strPre, popTo, argSlots, fldV, fldAV, subCells, idxVV, idxAAV, idxSV, sliceV, sliceSV, boundV, szIs, storeOp, storeS, setRowV, eff, extV, buildV, splice, eqSV, fitsL, eqCells, eqCell, minmaxV, capV, binBV, nilCheckV, bytesV, V.cells, V.stays, Orc.nothing, h0, h1, h2, h7])
        exact ⟨inR_i64 (by omega) (by omega), k, by omega, n + 1, by omega, by omega, heq, by simp⟩
      · have hd : decide (tell a n = tell b n) = false := decide_eq_false he
        rw [hd] at heq ⊢
        simp only [Bool.false_eq_true, if_false] at heq
        (refine Runs.of_step Orc.nothing 300 ?_; simp -implicitDefEqProofs only [BB, Int.reduceEq, Int.reduceNe, Int.reduceLT, Int.reduceLE, Int.reduceGT, Int.reduceGE, Nat.reduceEqDiff, Nat.reduceAdd, Nat.reduceMul, Nat.reduceLeDiff, Nat.reduceSub, Nat.reduceLT, Nat.reduceBEq, ↓reduceIte, reduceCtorEq, ← decide_not, okind, vpre, vpure, intBin, intPre, strBin, strPre, popTo, argSlots, fldV, fldAV, subCells, idxVV, idxAAV, idxSV, sliceV, sliceSV, boundV, szIs, storeOp, storeS, setRowV, eff, extV, buildV, splice, eqSV, fitsL, eqCells, eqCell, minmaxV, capV, binBV, nilCheckV, bytesV, V.cells, V.stays, Orc.nothing, h0, h1, h2, h7])
        exact RetV.same (by rw [heq])
    · have hm0 : m = 0 := by omega
      subst hm0
      rw [alikeN] at heq
      exact RetV.same (by rw [heq])
def tellF (L : List (List Nd)) (k : Nat) : List Nd := (L[k]?).getD []
def tellL (L : List (List Nd)) (k : Nat) : List Nd := (L[L.length - 1 - k]?).getD []
set_option maxRecDepth 100000 in
theorem tellF_c (L : List (List Nd)) (k : Nat) (hL : L.length ≤ 10000) (hk : k < L.length) : PFun Try.prog 56 [encT L, vI k] (encNs (tellF L k)) := fun σ => by
  refine Contract.of_runs Try.func56 e56 k56 (by simp [c56]) ?_
  refine Runs.mix 5 ?_
  (refine Runs.of_step Orc.nothing 300 ?_; simp -implicitDefEqProofs only [BB, Int.reduceEq, Int.reduceNe, Int.reduceLT, Int.reduceLE, Int.reduceGT, Int.reduceGE, Nat.reduceEqDiff, Nat.reduceAdd, Nat.reduceMul, Nat.reduceLeDiff, Nat.reduceSub, Nat.reduceLT, Nat.reduceBEq, ↓reduceIte, reduceCtorEq, ← decide_not, okind, vpre, vpure, intBin, intPre, strBin, strPre, popTo, argSlots, fldV, fldAV, subCells, idxVV, idxAAV, idxSV, sliceV, sliceSV, boundV, szIs, storeOp, storeS, setRowV, eff, extV, buildV, splice, eqSV, fitsL, eqCells, eqCell, minmaxV, capV, binBV, nilCheckV, bytesV, V.cells, V.stays, Orc.nothing, c56, idxAV_encT hk, loadV_rp_encNs])
  exact RetV.same (by simp [tellF, hk])
set_option maxRecDepth 100000 in
theorem tellL_c (L : List (List Nd)) (k : Nat) (hL : L.length ≤ 10000) (hk : k < L.length) : PFun Try.prog 58 [encT L, vI k] (encNs (tellL L k)) := fun σ => by
  refine Contract.of_runs Try.func58 e58 k58 (by simp [c58]) ?_
  refine Runs.mix 5 ?_
  (refine Runs.of_step Orc.nothing 300 ?_; simp -implicitDefEqProofs only [BB, Int.reduceEq, Int.reduceNe, Int.reduceLT, Int.reduceLE, Int.reduceGT, Int.reduceGE, Nat.reduceEqDiff, Nat.reduceAdd, Nat.reduceMul, Nat.reduceLeDiff, Nat.reduceSub, Nat.reduceLT, Nat.reduceBEq, ↓reduceIte, reduceCtorEq, ← decide_not, okind, vpre, vpure, intBin, intPre, strBin, strPre, popTo, argSlots, fldV, fldAV, subCells, idxVV, idxAAV, idxSV, sliceV, sliceSV, boundV, szIs, storeOp, storeS, setRowV, eff, extV, buildV, splice, eqSV, fitsL, eqCells, eqCell, minmaxV, capV, binBV, nilCheckV, bytesV, V.cells, V.stays, Orc.nothing, c58, lenV_encT])
  have hk2 : L.length - 1 - k < L.length := by omega
  have e : (L.length : Int) - 1 - k = ((L.length - 1 - k : Nat) : Int) := by omega
  rw [e]
  simp -implicitDefEqProofs only [BB, Int.reduceEq, Int.reduceNe, Int.reduceLT, Int.reduceLE, Int.reduceGT, Int.reduceGE, Nat.reduceEqDiff, Nat.reduceAdd, Nat.reduceMul, Nat.reduceLeDiff, Nat.reduceSub, Nat.reduceLT, Nat.reduceBEq, ↓reduceIte, reduceCtorEq, ← decide_not, okind, vpre, vpure, intBin, intPre, strBin, strPre, popTo, argSlots, fldV, fldAV, subCells, idxVV, idxAAV, idxSV, sliceV, sliceSV, boundV, szIs, storeOp, storeS, setRowV, eff, extV, buildV, splice, eqSV, fitsL, eqCells, eqCell, minmaxV, capV, binBV, nilCheckV, bytesV, V.cells, V.stays, idxAV_encT hk2, loadV_rp_encNs]
  exact ⟨inR_i64 (by omega) (by omega), inR_i64 (by omega) (by omega), RetV.same (by simp [tellL, hk2])⟩
/-- the edit between two documents -/
def betweenC (a b : List Nd) : Ed :=
  let x := treesR a; let y := treesR b
  let first := alikeR tellF x y
  let last := alikeR tellL (x.drop first) (y.drop first)
  ⟨1, -1, (x.take first).flatten.length, ((x.drop first).length : Int) - last, ((y.drop first).take ((y.drop first).length - last)).flatten, Sty.zero⟩
def betweenR (a b : List Nd) : Ed := if isB a && isB b then betweenC a b else Ed.zero
end Go.Vc
namespace Go.Vc
open Go.Proofs
theorem flatten_words {L : List (List Nd)} {B : Nat} (h : ∀ l ∈ L, ∀ x ∈ l, x.words.length ≤ B) : ∀ x ∈ L.flatten, x.words.length ≤ B := fun x hx => by
  obtain ⟨l, hl, hx⟩ := List.mem_flatten.1 hx
  exact h l hl x hx
theorem kidsW_cuts {l : List Nd} {e : Nat} (he : e ≤ l.length) : ∀ (m a : Nat), e - a < m → a ≤ e → rowsB l a e = true → ((kidsW l a e).map fun k => cutL l k (k + szI l k.toNat)).flatten = cutL l a e
  | 0, _, h, _, _ => by omega
  | m + 1, a, h, hae, hr => by
    by_cases h0 : a = e
    · subst h0; rw [kidsW_nil (Nat.le_refl _)]; simp [cutL]
    · have hlt : a < e := by omega
      have hal : a < l.length := by omega
      obtain ⟨y1, y2⟩ := rowsB_ends he hr (Nat.le_refl a) hlt
      obtain ⟨hr2, _⟩ := rowsB_next he hr hlt
      have hse := szI_eq hal
      rw [kidsW_cons hlt hal (by omega), ← hse, List.map_cons, List.flatten_cons, kidsW_cuts he m (a + (szI l a).toNat) (by omega) (by omega) hr2]
      simp only [cutL, Int.toNat_natCast]
      have e1 : ((a : Int) + szI l a).toNat - a = (szI l a).toNat := by omega
      rw [e1]
      have e2 : e - a = (szI l a).toNat + (e - (a + (szI l a).toNat)) := by omega
      rw [e2, List.take_add, List.drop_drop]
theorem treesR_flat {l : List Nd} (hb : isB l = true) : (treesR l).flatten = l := by
  have hrows : rowsB l 0 l.length = true := by simp only [isB, Bool.and_eq_true] at hb; exact hb.2
  rw [treesR, kidsR_top hb]
  have := kidsW_cuts (Nat.le_refl _) (l.length + 1) 0 (by omega) (by omega) hrows
  rw [this]
  simp [cutL]
theorem flatten_take_le {L : List (List Nd)} (n : Nat) : (L.take n).flatten.length ≤ L.flatten.length := by
  conv => rhs; rw [← List.take_append_drop n L, List.flatten_append, List.length_append]
  omega
theorem flatten_drop_le {L : List (List Nd)} (n : Nat) : (L.drop n).flatten.length ≤ L.flatten.length := by
  conv => rhs; rw [← List.take_append_drop n L, List.flatten_append, List.length_append]
  omega
set_option maxRecDepth 100000 in
theorem between_c (a b : List Nd) (ha : Hlf a) (hb : Hlf b) : PFun Try.prog 26 [encNs a, encNs b] (.tup [encE (betweenR a b), .int .i64 (if isB a && isB b then 0 else 4)]) := fun σ => by
  have ha1 := ha.1
  have hb1 := hb.1
  obtain ⟨res, hres⟩ : ∃ v, v = encE (betweenR a b) := ⟨_, rfl⟩
  rw [← hres]
  refine Contract.of_runs Try.func26 e26 k26 (by simp [c26]) ?_
  refine Runs.mix 12 ?_
  (refine Runs.of_step Orc.nothing 300 ?_; simp -implicitDefEqProofs only [BB, Int.reduceEq, Int.reduceNe, Int.reduceLT, Int.reduceLE, Int.reduceGT, Int.reduceGE, Nat.reduceEqDiff, Nat.reduceAdd, Nat.reduceMul, Nat.reduceLeDiff, Nat.reduceSub, Nat.reduceLT, Nat.reduceBEq, ↓reduceIte, reduceCtorEq, ← decide_not, okind, vpre, vpure, intBin, intPre, strBin, strPre, popTo, argSlots, fldV, fldAV, subCells, idxVV, idxAAV, idxSV, sliceV, sliceSV, boundV, szIs, storeOp, storeS, setRowV, eff, extV, buildV, splice, eqSV, fitsL, eqCells, eqCell, minmaxV, capV, binBV, nilCheckV, bytesV, V.cells, V.stays, Orc.nothing, c26])
  refine effR_new fun id1 σ1 s1 a1 f1 => ?_
  simp -implicitDefEqProofs only [BB, Int.reduceEq, Int.reduceNe, Int.reduceLT, Int.reduceLE, Int.reduceGT, Int.reduceGE, Nat.reduceEqDiff, Nat.reduceAdd, Nat.reduceMul, Nat.reduceLeDiff, Nat.reduceSub, Nat.reduceLT, Nat.reduceBEq, ↓reduceIte, reduceCtorEq, ← decide_not, okind, vpre, vpure, intBin, intPre, strBin, strPre, popTo, argSlots, fldV, fldAV, subCells, idxVV, idxAAV, idxSV, sliceV, sliceSV, boundV, szIs, storeOp, storeS, setRowV, eff, extV, buildV, splice, eqSV, fitsL, eqCells, eqCell, minmaxV, capV, binBV, nilCheckV, bytesV, V.cells, V.stays, a1]
  refine Runs.pcall rfl rfl rfl (isv_c a ha.sml.fine _) ?_
  have hzero : (isB a && isB b) = false → RetV (.tup [.agg [.int .i64 0, .int .i64 0, .int .i64 0, .int .i64 0, .nils, .int .i64 0, .int .i64 0, .int .i64 0, .int .i64 0, .int .i64 0, .int .i64 0, .int .i64 0, .int .i64 0, .int .i64 0, .int .i64 0, .int .i64 0, .int .i64 0], .int .i64 4])
      (upd σ1 id1 ⟨39, 17, [.agg [.int .i64 0, .int .i64 0, .int .i64 0, .int .i64 0, .nils, .int .i64 0, .int .i64 0, .int .i64 0, .int .i64 0, .int .i64 0, .int .i64 0, .int .i64 0, .int .i64 0, .int .i64 0, .int .i64 0, .int .i64 0, .int .i64 0]]⟩)
      fun r σ' => r = .tup [res, .int .i64 (if (isB a && isB b) = true then 0 else 4)] ∧ σ' = σ := fun h => by
    have hr : betweenR a b = Ed.zero := by rw [betweenR, h]; rfl
    rw [hr] at hres
    have hsf := s1.updK f1 (o := ⟨39, 17, [.agg [.int .i64 0, .int .i64 0, .int .i64 0, .int .i64 0, .nils, .int .i64 0, .int .i64 0, .int .i64 0, .int .i64 0, .int .i64 0, .int .i64 0, .int .i64 0, .int .i64 0, .int .i64 0, .int .i64 0, .int .i64 0, .int .i64 0]]⟩)
    refine ⟨.tup [encE Ed.zero, .int .i64 4], σ, hsf, Wk.tup ?_, by rw [hres, h]; rfl, rfl⟩
    simp only [WkL]
    exact ⟨wk_edN hsf 0 0 0 0 Sty.zero, Wk.refl hsf _, trivial⟩
  cases hba : isB a
  · (refine Runs.of_step Orc.nothing 300 ?_; simp -implicitDefEqProofs only [BB, Int.reduceEq, Int.reduceNe, Int.reduceLT, Int.reduceLE, Int.reduceGT, Int.reduceGE, Nat.reduceEqDiff, Nat.reduceAdd, Nat.reduceMul, Nat.reduceLeDiff, Nat.reduceSub, Nat.reduceLT, Nat.reduceBEq, ↓reduceIte, reduceCtorEq, ← decide_not, okind, vpre, vpure, intBin, intPre, strBin, strPre, popTo, argSlots, fldV, fldAV, subCells, idxVV, idxAAV, idxSV, sliceV, sliceSV, boundV, szIs, storeOp, storeS, setRowV, eff, extV, buildV, splice, eqSV, fitsL, eqCells, eqCell, minmaxV, capV, binBV, nilCheckV, bytesV, Orc.nothing, a1, V.cells_agg, V.cells_int, V.cells_nils, V.cells_own, V.cells_sl, V.cells_str, V.cells_bool, V.cells_fn, V.cells_ptr, V.cells_rp, V.stays_agg, V.stays_int, V.stays_nils, V.stays_own, V.stays_sl, V.stays_str, V.stays_bool, V.stays_fn, V.stays_ptr, V.stays_rp])
    rw [hba] at hzero
    exact hzero rfl
  · (refine Runs.of_step Orc.nothing 300 ?_; simp -implicitDefEqProofs only [BB, Int.reduceEq, Int.reduceNe, Int.reduceLT, Int.reduceLE, Int.reduceGT, Int.reduceGE, Nat.reduceEqDiff, Nat.reduceAdd, Nat.reduceMul, Nat.reduceLeDiff, Nat.reduceSub, Nat.reduceLT, Nat.reduceBEq, ↓reduceIte, reduceCtorEq, ← decide_not, okind, vpre, vpure, intBin, intPre, strBin, strPre, popTo, argSlots, fldV, fldAV, subCells, idxVV, idxAAV, idxSV, sliceV, sliceSV, boundV, szIs, storeOp, storeS, setRowV, eff, extV, buildV, splice, eqSV, fitsL, eqCells, eqCell, minmaxV, capV, binBV, nilCheckV, bytesV, Orc.nothing, a1, V.cells_agg, V.cells_int, V.cells_nils, V.cells_own, V.cells_sl, V.cells_str, V.cells_bool, V.cells_fn, V.cells_ptr, V.cells_rp, V.stays_agg, V.stays_int, V.stays_nils, V.stays_own, V.stays_sl, V.stays_str, V.stays_bool, V.stays_fn, V.stays_ptr, V.stays_rp])
    refine Runs.pcall rfl rfl rfl (isv_c b hb.sml.fine _) ?_
    rw [hba] at hzero
    cases hbb : isB b
    · (refine Runs.of_step Orc.nothing 300 ?_; simp -implicitDefEqProofs only [BB, Int.reduceEq, Int.reduceNe, Int.reduceLT, Int.reduceLE, Int.reduceGT, Int.reduceGE, Nat.reduceEqDiff, Nat.reduceAdd, Nat.reduceMul, Nat.reduceLeDiff, Nat.reduceSub, Nat.reduceLT, Nat.reduceBEq, ↓reduceIte, reduceCtorEq, ← decide_not, okind, vpre, vpure, intBin, intPre, strBin, strPre, popTo, argSlots, fldV, fldAV, subCells, idxVV, idxAAV, idxSV, sliceV, sliceSV, boundV, szIs, storeOp, storeS, setRowV, eff, extV, buildV, splice, eqSV, fitsL, eqCells, eqCell, minmaxV, capV, binBV, nilCheckV, bytesV, Orc.nothing, a1, V.cells_agg, V.cells_int, V.cells_nils, V.cells_own, V.cells_sl, V.cells_str, V.cells_bool, V.cells_fn, V.cells_ptr, V.cells_rp, V.stays_agg, V.stays_int, V.stays_nils, V.stays_own, V.stays_sl, V.stays_str, V.stays_bool, V.stays_fn, V.stays_ptr, V.stays_rp])
      rw [hbb] at hzero
      exact hzero rfl
    · (refine Runs.of_step Orc.nothing 300 ?_; simp -implicitDefEqProofs only [BB, Int.reduceEq, Int.reduceNe, Int.reduceLT, Int.reduceLE, Int.reduceGT, Int.reduceGE, Nat.reduceEqDiff, Nat.reduceAdd, Nat.reduceMul, Nat.reduceLeDiff, Nat.reduceSub, Nat.reduceLT, Nat.reduceBEq, ↓reduceIte, reduceCtorEq, ← decide_not, okind, vpre, vpure, intBin, intPre, strBin, strPre, popTo, argSlots, fldV, fldAV, subCells, idxVV, idxAAV, idxSV, sliceV, sliceSV, boundV, szIs, storeOp, storeS, setRowV, eff, extV, buildV, splice, eqSV, fitsL, eqCells, eqCell, minmaxV, capV, binBV, nilCheckV, bytesV, Orc.nothing, a1, V.cells_agg, V.cells_int, V.cells_nils, V.cells_own, V.cells_sl, V.cells_str, V.cells_bool, V.cells_fn, V.cells_ptr, V.cells_rp, V.stays_agg, V.stays_int, V.stays_nils, V.stays_own, V.stays_sl, V.stays_str, V.stays_bool, V.stays_fn, V.stays_ptr, V.stays_rp])
      have hr : betweenR a b = betweenC a b := by rw [betweenR, hba, hbb]; rfl
      rw [hr] at hres
      refine Runs.pcall rfl rfl rfl (trees_c a ha.sml.fine hba _) ?_
      (refine Runs.of_step Orc.nothing 300 ?_; simp -implicitDefEqProofs only [BB, Int.reduceEq, Int.reduceNe, Int.reduceLT, Int.reduceLE, Int.reduceGT, Int.reduceGE, Nat.reduceEqDiff, Nat.reduceAdd, Nat.reduceMul, Nat.reduceLeDiff, Nat.reduceSub, Nat.reduceLT, Nat.reduceBEq, ↓reduceIte, reduceCtorEq, ← decide_not, okind, vpre, vpure, intBin, intPre, strBin, strPre, popTo, argSlots, fldV, fldAV, subCells, idxVV, idxAAV, idxSV, sliceV, sliceSV, boundV, szIs, storeOp, storeS, setRowV, eff, extV, buildV, splice, eqSV, fitsL, eqCells, eqCell, minmaxV, capV, binBV, nilCheckV, bytesV, V.cells, V.stays, Orc.nothing, a1])
      refine Runs.pcall rfl rfl rfl (trees_c b hb.sml.fine hbb _) ?_
      (refine Runs.of_step Orc.nothing 300 ?_; simp -implicitDefEqProofs only [BB, Int.reduceEq, Int.reduceNe, Int.reduceLT, Int.reduceLE, Int.reduceGT, Int.reduceGE, Nat.reduceEqDiff, Nat.reduceAdd, Nat.reduceMul, Nat.reduceLeDiff, Nat.reduceSub, Nat.reduceLT, Nat.reduceBEq, ↓reduceIte, reduceCtorEq, ← decide_not, okind, vpre, vpure, intBin, intPre, strBin, strPre, popTo, argSlots, fldV, fldAV, subCells, idxVV, idxAAV, idxSV, sliceV, sliceSV, boundV, szIs, storeOp, storeS, setRowV, eff, extV, buildV, splice, eqSV, fitsL, eqCells, eqCell, minmaxV, capV, binBV, nilCheckV, bytesV, V.cells, V.stays, Orc.nothing, a1])
      have fx := treesR_flat hba
      have fy := treesR_flat hbb
      have lx := treesR_len a
      have ly := treesR_len b
      have mx : ∀ t ∈ treesR a, t.length ≤ 5000 ∧ ∀ x ∈ t, x.words.length ≤ 1000000000 := fun t ht => ⟨by have := (treesR_mem ht).1; omega, fun x hx => ha.2 x ((treesR_mem ht).2 x hx)⟩
      have my : ∀ t ∈ treesR b, t.length ≤ 5000 ∧ ∀ x ∈ t, x.words.length ≤ 1000000000 := fun t ht => ⟨by have := (treesR_mem ht).1; omega, fun x hx => hb.2 x ((treesR_mem ht).2 x hx)⟩
      unfold betweenC at hres
      simp only at hres
      generalize treesR a = x at *
      generalize treesR b = y at *
      have fine : ∀ (L : List (List Nd)) (k : Nat), (∀ t ∈ L, t.length ≤ 5000 ∧ ∀ x ∈ t, x.words.length ≤ 1000000000) → Fine ((L[k]?).getD []) := fun L k hL => by
        cases h : L[k]? with
        | none => exact ⟨by simp, by simp⟩
        | some t => have := hL t (List.mem_of_getElem? h); exact ⟨by simp; omega, fun z hz => by have := this.2 z (by simpa using hz); omega⟩
      refine Runs.pcall rfl rfl rfl (alike_c tellF 56 x y (by omega) (by omega) tellF_c (fun k _ => fine x k mx) (fun k _ => fine y k my) _) ?_
      have hle := alikeR_le tellF x y
      generalize alikeR tellF x y = first at *
      have hsl1 := fun σ => sliceT_pre (σ := σ) (L := x) (s := first) (by omega) (by omega)
      have hsl2 := fun σ => sliceT_from (σ := σ) (L := x) (s := first) (by omega) (by omega)
      have hsl3 := fun σ => sliceT_from (σ := σ) (L := y) (s := first) (by omega) (by omega)
      simp only [Int.toNat_natCast] at hsl1 hsl2 hsl3
      (refine Runs.of_step Orc.nothing 300 ?_; simp -implicitDefEqProofs only [BB, Int.reduceEq, Int.reduceNe, Int.reduceLT, Int.reduceLE, Int.reduceGT, Int.reduceGE, Nat.reduceEqDiff, Nat.reduceAdd, Nat.reduceMul, Nat.reduceLeDiff, Nat.reduceSub, Nat.reduceLT, Nat.reduceBEq, ↓reduceIte, reduceCtorEq, ← decide_not, okind, vpre, vpure, intBin, intPre, strBin, strPre, popTo, argSlots, fldV, fldAV, subCells, idxVV, idxAAV, idxSV, sliceSV, boundV, szIs, storeOp, storeS, setRowV, eff, extV, buildV, splice, eqSV, fitsL, eqCells, eqCell, minmaxV, capV, binBV, nilCheckV, bytesV, V.cells, V.stays, Orc.nothing, a1, hsl1])
      have hcx := concat_c (x.take first) (by simp; omega) (fun t ht => by have := (mx t (List.mem_of_mem_take ht)).1; omega)
      refine Runs.pcall rfl rfl rfl (hcx _) ?_
      (refine Runs.of_step Orc.nothing 300 ?_; simp -implicitDefEqProofs only [BB, Int.reduceEq, Int.reduceNe, Int.reduceLT, Int.reduceLE, Int.reduceGT, Int.reduceGE, Nat.reduceEqDiff, Nat.reduceAdd, Nat.reduceMul, Nat.reduceLeDiff, Nat.reduceSub, Nat.reduceLT, Nat.reduceBEq, ↓reduceIte, reduceCtorEq, ← decide_not, okind, vpre, vpure, intBin, intPre, strBin, strPre, popTo, argSlots, fldV, fldAV, subCells, idxVV, idxAAV, idxSV, sliceSV, boundV, szIs, storeOp, storeS, setRowV, eff, extV, buildV, splice, eqSV, fitsL, eqCells, eqCell, minmaxV, capV, binBV, nilCheckV, bytesV, V.cells, V.stays, Orc.nothing, a1, hsl2, hsl3, lenV_encNs])
      have mx2 := fun t (ht : t ∈ x.drop first) => mx t (List.mem_of_mem_drop ht)
      have my2 := fun t (ht : t ∈ y.drop first) => my t (List.mem_of_mem_drop ht)
      refine Runs.pcall rfl rfl rfl (alike_c tellL 58 (x.drop first) (y.drop first) (by simp; omega) (by simp; omega) tellL_c (fun k _ => fine _ _ mx2) (fun k _ => fine _ _ my2) _) ?_
      have hle2 := alikeR_le tellL (x.drop first) (y.drop first)
      generalize alikeR tellL (x.drop first) (y.drop first) = last at *
      have hly : (y.drop first).length ≤ 5000 := by simp; omega
      have hlx : (x.drop first).length ≤ 5000 := by simp; omega
      have hfy := flatten_drop_le (L := y) first
      generalize hxg : x.drop first = x2 at *
      generalize hyg : y.drop first = y2 at *
      have e1 : (y2.length : Int) - last = ((y2.length - last : Nat) : Int) := by omega
      have hsl4 := fun σ => sliceT_pre (σ := σ) (L := y2) (s := (y2.length : Int) - last) (by omega) (by omega)
      have e2 : ((y2.length : Int) - last).toNat = y2.length - last := by omega
      rw [e2] at hsl4
      (refine Runs.of_step Orc.nothing 300 ?_; simp -implicitDefEqProofs only [BB, Int.reduceEq, Int.reduceNe, Int.reduceLT, Int.reduceLE, Int.reduceGT, Int.reduceGE, Nat.reduceEqDiff, Nat.reduceAdd, Nat.reduceMul, Nat.reduceLeDiff, Nat.reduceSub, Nat.reduceLT, Nat.reduceBEq, ↓reduceIte, reduceCtorEq, ← decide_not, okind, vpre, vpure, intBin, intPre, strBin, strPre, popTo, argSlots, fldV, fldAV, subCells, idxVV, idxAAV, idxSV, sliceSV, boundV, szIs, storeOp, storeS, setRowV, eff, extV, buildV, splice, eqSV, fitsL, eqCells, eqCell, minmaxV, capV, binBV, nilCheckV, bytesV, V.cells, V.stays, Orc.nothing, a1, lenV_encT, hsl4])
      refine ⟨inR_i64 (by omega) (by omega), ?_⟩
      have hcy := concat_c (y2.take (y2.length - last)) (by simp; omega) (fun t ht => by have := (my2 t (List.mem_of_mem_take ht)).1; omega)
      refine Runs.pcall rfl rfl rfl (hcy _) ?_
      (refine Runs.of_step Orc.nothing 300 ?_; simp -implicitDefEqProofs only [BB, Int.reduceEq, Int.reduceNe, Int.reduceLT, Int.reduceLE, Int.reduceGT, Int.reduceGE, Nat.reduceEqDiff, Nat.reduceAdd, Nat.reduceMul, Nat.reduceLeDiff, Nat.reduceSub, Nat.reduceLT, Nat.reduceBEq, ↓reduceIte, reduceCtorEq, ← decide_not, okind, vpre, vpure, intBin, intPre, strBin, strPre, popTo, argSlots, fldV, fldAV, subCells, idxVV, idxAAV, idxSV, sliceV, sliceSV, boundV, szIs, storeOp, storeS, setRowV, eff, extV, buildV, splice, eqSV, fitsL, eqCells, eqCell, minmaxV, capV, binBV, nilCheckV, bytesV, V.cells, V.stays, Orc.nothing, a1, lenV_encT])
      refine ⟨inR_i64 (by omega) (by omega), ?_⟩
      have hsub : Sml (y2.take (y2.length - last)).flatten := ⟨by have := flatten_take_le (L := y2) (y2.length - last); rw [fy] at hfy; omega, flatten_words fun t ht => (my2 t (List.mem_of_mem_take ht)).2⟩
      refine Runs.pcall rfl rfl rfl (own9_c _ hsub _) ?_
      have hsb : ∀ (p m : Int) (s : List Nd), buildV [.int .i64 0, .int .i64 0, .int .i64 0, .int .i64 0, .nils, .int .i64 0, .int .i64 0, .int .i64 0, .int .i64 0, .int .i64 0, .int .i64 0, .int .i64 0, .int .i64 0, .int .i64 0, .int .i64 0, .int .i64 0, .int .i64 0]
          [(0, 1, .int .i64 1), (1, 1, .int .i64 (-1)), (2, 1, .int .i64 p), (3, 1, .int .i64 m), (4, 1, encNs s)] = some [.int .i64 1, .int .i64 (-1), .int .i64 p, .int .i64 m, encNs s, .int .i64 0, .int .i64 0, .int .i64 0, .int .i64 0, .int .i64 0, .int .i64 0, .int .i64 0, .int .i64 0, .int .i64 0, .int .i64 0, .int .i64 0, .int .i64 0] := fun _ _ _ => rfl
      (refine Runs.of_step Orc.nothing 300 ?_; simp -implicitDefEqProofs only [BB, Int.reduceEq, Int.reduceNe, Int.reduceLT, Int.reduceLE, Int.reduceGT, Int.reduceGE, Nat.reduceEqDiff, Nat.reduceAdd, Nat.reduceMul, Nat.reduceLeDiff, Nat.reduceSub, Nat.reduceLT, Nat.reduceBEq, ↓reduceIte, reduceCtorEq, ← decide_not, okind, vpre, vpure, intBin, intPre, strBin, strPre, popTo, argSlots, fldV, fldAV, subCells, idxVV, idxAAV, idxSV, sliceV, sliceSV, boundV, szIs, storeOp, storeS, setRowV, eff, extV, splice, eqSV, fitsL, eqCells, eqCell, minmaxV, capV, binBV, nilCheckV, bytesV, Orc.nothing, a1, encNs_cells, encNs_stays, V.cells_agg, V.cells_int, V.cells_nils, V.cells_own, V.cells_sl, V.cells_str, V.cells_bool, V.cells_fn, V.cells_ptr, V.cells_rp, V.stays_agg, V.stays_int, V.stays_nils, V.stays_own, V.stays_sl, V.stays_str, V.stays_bool, V.stays_fn, V.stays_ptr, V.stays_rp, hsb])
      exact RetV.pure (s1.updK f1) (by rw [hres]; rfl)
end Go.Vc
namespace Go.Vc
open Go.Proofs
def tabB : Tr (Option VFn) := setP none (some c39) 39 tabA
theorem ok39 : okFn c39 = true := by kernel_rfl
theorem tabB_ok : CodeOk Try.prog (fun f => getP none f tabB) := CodeOk.add tabA_ok ok39 k39 Try.func39 e39
def mono (w h : Int) : Nd := ⟨3, 1, Sty.zero, 0, 0, [], 0, w, h⟩
def plainS : Sty := ⟨0, 0, 0, 0, 0, 2, 2, 0, 0, 0, 0, 0⟩
def blk (n : Int) : Nd := ⟨1, n, plainS, 0, 0, [], 0, 0, 0⟩
def s123 : List UInt8 := [123, 49, 32, 49, 125, 123, 50, 32, 50, 125, 123, 51, 32, 51, 125]
def s45 : List UInt8 := [123, 52, 32, 52, 125, 123, 53, 32, 53, 125]
def s13 : List UInt8 := [123, 49, 32, 49, 125, 123, 51, 32, 51, 125]
def s1453 : List UInt8 := [123, 49, 32, 49, 125, 123, 52, 32, 52, 125, 123, 53, 32, 53, 125, 123, 51, 32, 51, 125]
def s2 : List UInt8 := [123, 50, 32, 50, 125]
def sb1 : List UInt8 := [91, 123, 49, 32, 49, 125, 93]
def sb12 : List UInt8 := [91, 123, 49, 32, 49, 125, 123, 50, 32, 50, 125, 93]
theorem of123 : PFun Try.prog 39 [.str s123] (encNs [mono 1 1, mono 2 2, mono 3 3]) := PFun.of_evF (fuel := 1000) tabB_ok rfl (by kernel_rfl)
theorem of45 : PFun Try.prog 39 [.str s45] (encNs [mono 4 4, mono 5 5]) := PFun.of_evF (fuel := 1000) tabB_ok rfl (by kernel_rfl)
theorem of13 : PFun Try.prog 39 [.str s13] (encNs [mono 1 1, mono 3 3]) := PFun.of_evF (fuel := 1000) tabB_ok rfl (by kernel_rfl)
theorem of1453 : PFun Try.prog 39 [.str s1453] (encNs [mono 1 1, mono 4 4, mono 5 5, mono 3 3]) := PFun.of_evF (fuel := 1000) tabB_ok rfl (by kernel_rfl)
theorem of2 : PFun Try.prog 39 [.str s2] (encNs [mono 2 2]) := PFun.of_evF (fuel := 1000) tabB_ok rfl (by kernel_rfl)
theorem ofb1 : PFun Try.prog 39 [.str sb1] (encNs [blk 2, mono 1 1]) := PFun.of_evF (fuel := 1000) tabB_ok rfl (by kernel_rfl)
theorem ofb12 : PFun Try.prog 39 [.str sb12] (encNs [blk 3, mono 1 1, mono 2 2]) := PFun.of_evF (fuel := 1000) tabB_ok rfl (by kernel_rfl)
theorem of0 : PFun Try.prog 39 [.str []] (encNs []) := PFun.of_evF (fuel := 1000) tabB_ok rfl (by kernel_rfl)
theorem plain_c : PFun Try.prog 43 [] (.agg plainS.cells) := PFun.of_evF (fuel := 1000) tabB_ok rfl (by kernel_rfl)
set_option maxRecDepth 100000 in
theorem swapS_c (s : List UInt8) (L : List Nd) (into p many : Int) (h : PFun Try.prog 39 [.str s] (encNs L)) : PFun Try.prog 40 [vI into, vI p, vI many, .str s] (encE ⟨1, into, p, many, L, Sty.zero⟩) := fun σ => by
  refine Contract.of_runs Try.func40 e40 k40 (by simp [c40]) ?_
  refine Runs.mix 9 ?_
  (refine Runs.of_step Orc.nothing 300 ?_; simp -implicitDefEqProofs only [BB, Int.reduceEq, Int.reduceNe, Int.reduceLT, Int.reduceLE, Int.reduceGT, Int.reduceGE, Nat.reduceEqDiff, Nat.reduceAdd, Nat.reduceMul, Nat.reduceLeDiff, Nat.reduceSub, Nat.reduceLT, Nat.reduceBEq, ↓reduceIte, reduceCtorEq, ← decide_not, okind, vpre, vpure, intBin, intPre, strBin, strPre, popTo, argSlots, fldV, fldAV, subCells, idxVV, idxAAV, idxSV, sliceV, sliceSV, boundV, szIs, storeOp, storeS, setRowV, eff, extV, buildV, splice, eqSV, fitsL, eqCells, eqCell, minmaxV, capV, binBV, nilCheckV, bytesV, V.cells, V.stays, Orc.nothing, c40])
  refine effR_new fun id1 σ1 s1 a1 f1 => ?_
  simp -implicitDefEqProofs only [BB, Int.reduceEq, Int.reduceNe, Int.reduceLT, Int.reduceLE, Int.reduceGT, Int.reduceGE, Nat.reduceEqDiff, Nat.reduceAdd, Nat.reduceMul, Nat.reduceLeDiff, Nat.reduceSub, Nat.reduceLT, Nat.reduceBEq, ↓reduceIte, reduceCtorEq, ← decide_not, okind, vpre, vpure, intBin, intPre, strBin, strPre, popTo, argSlots, fldV, fldAV, subCells, idxVV, idxAAV, idxSV, sliceV, sliceSV, boundV, szIs, storeOp, storeS, setRowV, eff, extV, buildV, splice, eqSV, fitsL, eqCells, eqCell, minmaxV, capV, binBV, nilCheckV, bytesV, V.cells, V.stays, a1]
  refine Runs.pcall rfl rfl rfl (h _) ?_
  have hsb : ∀ (i p m : Int) (s : List Nd), buildV [.int .i64 0, .int .i64 0, .int .i64 0, .int .i64 0, .nils, .int .i64 0, .int .i64 0, .int .i64 0, .int .i64 0, .int .i64 0, .int .i64 0, .int .i64 0, .int .i64 0, .int .i64 0, .int .i64 0, .int .i64 0, .int .i64 0]
      [(0, 1, .int .i64 1), (1, 1, vI i), (2, 1, vI p), (3, 1, vI m), (4, 1, encNs s)] = some [.int .i64 1, .int .i64 i, .int .i64 p, .int .i64 m, encNs s, .int .i64 0, .int .i64 0, .int .i64 0, .int .i64 0, .int .i64 0, .int .i64 0, .int .i64 0, .int .i64 0, .int .i64 0, .int .i64 0, .int .i64 0, .int .i64 0] := fun _ _ _ _ => rfl
  (refine Runs.of_step Orc.nothing 300 ?_; simp -implicitDefEqProofs only [BB, Int.reduceEq, Int.reduceNe, Int.reduceLT, Int.reduceLE, Int.reduceGT, Int.reduceGE, Nat.reduceEqDiff, Nat.reduceAdd, Nat.reduceMul, Nat.reduceLeDiff, Nat.reduceSub, Nat.reduceLT, Nat.reduceBEq, ↓reduceIte, reduceCtorEq, ← decide_not, okind, vpre, vpure, intBin, intPre, strBin, strPre, popTo, argSlots, fldV, fldAV, subCells, idxVV, idxAAV, idxSV, sliceV, sliceSV, boundV, szIs, storeOp, storeS, setRowV, eff, extV, splice, eqSV, fitsL, eqCells, eqCell, minmaxV, capV, binBV, nilCheckV, bytesV, Orc.nothing, a1, encNs_cells, encNs_stays, V.cells_agg, V.cells_int, V.cells_nils, V.cells_own, V.cells_sl, V.cells_str, V.cells_bool, V.cells_fn, V.cells_ptr, V.cells_rp, V.stays_agg, V.stays_int, V.stays_nils, V.stays_own, V.stays_sl, V.stays_str, V.stays_bool, V.stays_fn, V.stays_ptr, V.stays_rp, hsb])
  exact RetV.pure (s1.updK f1) rfl
end Go.Vc
namespace Go.Vc
open Go.Proofs
set_option maxRecDepth 100000 in
theorem does_c (s w : List UInt8) (L Lw : List Nd) (x : Ed) (h : PFun Try.prog 39 [.str s] (encNs L)) (hw : PFun Try.prog 39 [.str w] (encNs Lw)) (hl : Hlf L) (hx : Hlf x.sub) (hlw : Fine Lw) :
    PFun Try.prog 41 [.str s, encE x, .str w] (.bool (decide (doR L x = some Lw))) := fun σ => by
  have hdc := do_c L x hl hx
  refine Contract.of_runs Try.func41 e41 k41 (by simp [c41]) ?_
  refine Runs.mix 9 ?_
  obtain ⟨cs, hcs⟩ : ∃ v, v = encE x := ⟨_, rfl⟩
  have hcc : cs.cells.length = 17 := by rw [hcs]; rfl
  have hcst : cs.stays = true := by rw [hcs]; rfl
  have hcl : V.agg cs.cells = cs := by rw [hcs]; rfl
  rw [← hcs] at hdc ⊢
  (refine Runs.of_step Orc.nothing 300 ?_; simp -implicitDefEqProofs only [BB, Int.reduceEq, Int.reduceNe, Int.reduceLT, Int.reduceLE, Int.reduceGT, Int.reduceGE, Nat.reduceEqDiff, Nat.reduceAdd, Nat.reduceMul, Nat.reduceLeDiff, Nat.reduceSub, Nat.reduceLT, Nat.reduceBEq, ↓reduceIte, reduceCtorEq, ← decide_not, okind, vpre, vpure, intBin, intPre, strBin, strPre, popTo, argSlots, fldV, fldAV, subCells, idxVV, idxAAV, idxSV, sliceV, sliceSV, boundV, szIs, storeOp, storeS, setRowV, eff, extV, buildV, splice, eqSV, fitsL, eqCells, eqCell, minmaxV, capV, binBV, nilCheckV, bytesV, Orc.nothing, c41, hcc, hcst, V.cells_agg, V.cells_int, V.cells_nils, V.cells_own, V.cells_sl, V.cells_str, V.cells_bool, V.cells_fn, V.cells_ptr, V.cells_rp, V.stays_agg, V.stays_int, V.stays_nils, V.stays_own, V.stays_sl, V.stays_str, V.stays_bool, V.stays_fn, V.stays_ptr, V.stays_rp])
  refine effR_new fun id1 σ1 s1 a1 f1 => ?_
  simp -implicitDefEqProofs only [BB, Int.reduceEq, Int.reduceNe, Int.reduceLT, Int.reduceLE, Int.reduceGT, Int.reduceGE, Nat.reduceEqDiff, Nat.reduceAdd, Nat.reduceMul, Nat.reduceLeDiff, Nat.reduceSub, Nat.reduceLT, Nat.reduceBEq, ↓reduceIte, reduceCtorEq, ← decide_not, okind, vpre, vpure, intBin, intPre, strBin, strPre, popTo, argSlots, fldV, fldAV, subCells, idxVV, idxAAV, idxSV, sliceV, sliceSV, boundV, szIs, storeOp, storeS, setRowV, eff, extV, buildV, splice, eqSV, fitsL, eqCells, eqCell, minmaxV, capV, binBV, nilCheckV, bytesV, V.cells, V.stays, a1]
  refine Go.pcall rfl h ?_
  (refine Go.of_step Orc.nothing 300 _ _ ?_; simp -implicitDefEqProofs only [BB, Int.reduceEq, Int.reduceNe, Int.reduceLT, Int.reduceLE, Int.reduceGT, Int.reduceGE, Nat.reduceEqDiff, Nat.reduceAdd, Nat.reduceMul, Nat.reduceLeDiff, Nat.reduceSub, Nat.reduceLT, Nat.reduceBEq, ↓reduceIte, reduceCtorEq, ← decide_not, okind, vpre, vpure, intBin, intPre, strBin, strPre, popTo, argSlots, fldV, fldAV, subCells, idxVV, idxAAV, idxSV, sliceV, sliceSV, boundV, szIs, storeOp, storeS, setRowV, eff, extV, buildV, splice, eqSV, fitsL, eqCells, eqCell, minmaxV, capV, binBV, nilCheckV, bytesV, Orc.nothing, a1, hcc, hcl, V.cells_agg, V.cells_int, V.cells_nils, V.cells_own, V.cells_sl, V.cells_str, V.cells_bool, V.cells_fn, V.cells_ptr, V.cells_rp, V.stays_agg, V.stays_int, V.stays_nils, V.stays_own, V.stays_sl, V.stays_str, V.stays_bool, V.stays_fn, V.stays_ptr, V.stays_rp])
  refine Go.pcall rfl hdc ?_
  have hsml := fun out (ho : doR L x = some out) => (outR_sml hl (doR_some ho).1 hx (doR_some ho).2.2.1)
  cases hd : doR L x with
  | none =>
    (refine Go.of_step Orc.nothing 300 _ _ ?_; simp -implicitDefEqProofs only [BB, Int.reduceEq, Int.reduceNe, Int.reduceLT, Int.reduceLE, Int.reduceGT, Int.reduceGE, Nat.reduceEqDiff, Nat.reduceAdd, Nat.reduceMul, Nat.reduceLeDiff, Nat.reduceSub, Nat.reduceLT, Nat.reduceBEq, ↓reduceIte, reduceCtorEq, ← decide_not, okind, vpre, vpure, intBin, intPre, strBin, strPre, popTo, argSlots, fldV, fldAV, subCells, idxVV, idxAAV, idxSV, sliceV, sliceSV, boundV, szIs, storeOp, storeS, setRowV, eff, extV, buildV, splice, eqSV, fitsL, eqCells, eqCell, minmaxV, capV, binBV, nilCheckV, bytesV, V.cells, V.stays, Orc.nothing, errV, optV, Option.isSome_none, Option.getD_none])
    exact RetV.pure s1 (by simp)
  | some out =>
    (refine Go.of_step Orc.nothing 300 _ _ ?_; simp -implicitDefEqProofs only [BB, Int.reduceEq, Int.reduceNe, Int.reduceLT, Int.reduceLE, Int.reduceGT, Int.reduceGE, Nat.reduceEqDiff, Nat.reduceAdd, Nat.reduceMul, Nat.reduceLeDiff, Nat.reduceSub, Nat.reduceLT, Nat.reduceBEq, ↓reduceIte, reduceCtorEq, ← decide_not, okind, vpre, vpure, intBin, intPre, strBin, strPre, popTo, argSlots, fldV, fldAV, subCells, idxVV, idxAAV, idxSV, sliceV, sliceSV, boundV, szIs, storeOp, storeS, setRowV, eff, extV, buildV, splice, eqSV, fitsL, eqCells, eqCell, minmaxV, capV, binBV, nilCheckV, bytesV, V.cells, V.stays, Orc.nothing, errV, optV, Option.isSome_some, Option.getD_some])
    refine Runs.pcall rfl rfl rfl (hw _) ?_
    (refine Runs.of_step Orc.nothing 300 ?_; simp -implicitDefEqProofs only [BB, Int.reduceEq, Int.reduceNe, Int.reduceLT, Int.reduceLE, Int.reduceGT, Int.reduceGE, Nat.reduceEqDiff, Nat.reduceAdd, Nat.reduceMul, Nat.reduceLeDiff, Nat.reduceSub, Nat.reduceLT, Nat.reduceBEq, ↓reduceIte, reduceCtorEq, ← decide_not, okind, vpre, vpure, intBin, intPre, strBin, strPre, popTo, argSlots, fldV, fldAV, subCells, idxVV, idxAAV, idxSV, sliceV, sliceSV, boundV, szIs, storeOp, storeS, setRowV, eff, extV, buildV, splice, eqSV, fitsL, eqCells, eqCell, minmaxV, capV, binBV, nilCheckV, bytesV, V.cells, V.stays, Orc.nothing])
    refine Runs.pcall rfl rfl rfl (same5_c out Lw (hsml out hd).fine hlw _) ?_
    (refine Runs.of_step Orc.nothing 300 ?_; simp -implicitDefEqProofs only [BB, Int.reduceEq, Int.reduceNe, Int.reduceLT, Int.reduceLE, Int.reduceGT, Int.reduceGE, Nat.reduceEqDiff, Nat.reduceAdd, Nat.reduceMul, Nat.reduceLeDiff, Nat.reduceSub, Nat.reduceLT, Nat.reduceBEq, ↓reduceIte, reduceCtorEq, ← decide_not, okind, vpre, vpure, intBin, intPre, strBin, strPre, popTo, argSlots, fldV, fldAV, subCells, idxVV, idxAAV, idxSV, sliceV, sliceSV, boundV, szIs, storeOp, storeS, setRowV, eff, extV, buildV, splice, eqSV, fitsL, eqCells, eqCell, minmaxV, capV, binBV, nilCheckV, bytesV, V.cells, V.stays, Orc.nothing])
    exact RetV.pure s1 (by simp)
set_option maxRecDepth 100000 in
theorem none_c (s : List UInt8) (L : List Nd) (x : Ed) (h : PFun Try.prog 39 [.str s] (encNs L)) (hl : Hlf L) (hx : Hlf x.sub) (hd : doR L x = none) :
    PFun Try.prog 42 [.str s, encE x] (.bool true) := fun σ => by
  have hdc := do_c L x hl hx
  have hbc := back_c L x hl hx
  rw [backC, hd] at hbc
  rw [hd] at hdc
  simp only [errV, optV, Option.isSome_none, Option.getD_none, Bool.false_eq_true, if_false] at hdc hbc
  obtain ⟨cs, hcs⟩ : ∃ v, v = encE x := ⟨_, rfl⟩
  have hcc : cs.cells.length = 17 := by rw [hcs]; rfl
  have hcst : cs.stays = true := by rw [hcs]; rfl
  have hcl : V.agg cs.cells = cs := by rw [hcs]; rfl
  rw [← hcs] at hdc hbc ⊢
  refine Contract.of_runs Try.func42 e42 k42 (by simp [c42]) ?_
  refine Runs.mix 9 ?_
  (refine Runs.of_step Orc.nothing 300 ?_; simp -implicitDefEqProofs only [BB, Int.reduceEq, Int.reduceNe, Int.reduceLT, Int.reduceLE, Int.reduceGT, Int.reduceGE, Nat.reduceEqDiff, Nat.reduceAdd, Nat.reduceMul, Nat.reduceLeDiff, Nat.reduceSub, Nat.reduceLT, Nat.reduceBEq, ↓reduceIte, reduceCtorEq, ← decide_not, okind, vpre, vpure, intBin, intPre, strBin, strPre, popTo, argSlots, fldV, fldAV, subCells, idxVV, idxAAV, idxSV, sliceV, sliceSV, boundV, szIs, storeOp, storeS, setRowV, eff, extV, buildV, splice, eqSV, fitsL, eqCells, eqCell, minmaxV, capV, binBV, nilCheckV, bytesV, Orc.nothing, c42, hcc, hcst, V.cells_agg, V.cells_int, V.cells_nils, V.cells_own, V.cells_sl, V.cells_str, V.cells_bool, V.cells_fn, V.cells_ptr, V.cells_rp, V.stays_agg, V.stays_int, V.stays_nils, V.stays_own, V.stays_sl, V.stays_str, V.stays_bool, V.stays_fn, V.stays_ptr, V.stays_rp])
  refine effR_new fun id1 σ1 s1 a1 f1 => ?_
  simp -implicitDefEqProofs only [BB, Int.reduceEq, Int.reduceNe, Int.reduceLT, Int.reduceLE, Int.reduceGT, Int.reduceGE, Nat.reduceEqDiff, Nat.reduceAdd, Nat.reduceMul, Nat.reduceLeDiff, Nat.reduceSub, Nat.reduceLT, Nat.reduceBEq, ↓reduceIte, reduceCtorEq, ← decide_not, okind, vpre, vpure, intBin, intPre, strBin, strPre, popTo, argSlots, fldV, fldAV, subCells, idxVV, idxAAV, idxSV, sliceV, sliceSV, boundV, szIs, storeOp, storeS, setRowV, eff, extV, buildV, splice, eqSV, fitsL, eqCells, eqCell, minmaxV, capV, binBV, nilCheckV, bytesV, V.cells, V.stays, a1]
  refine Go.pcall rfl h ?_
  (refine Go.of_step Orc.nothing 300 _ _ ?_; simp -implicitDefEqProofs only [BB, Int.reduceEq, Int.reduceNe, Int.reduceLT, Int.reduceLE, Int.reduceGT, Int.reduceGE, Nat.reduceEqDiff, Nat.reduceAdd, Nat.reduceMul, Nat.reduceLeDiff, Nat.reduceSub, Nat.reduceLT, Nat.reduceBEq, ↓reduceIte, reduceCtorEq, ← decide_not, okind, vpre, vpure, intBin, intPre, strBin, strPre, popTo, argSlots, fldV, fldAV, subCells, idxVV, idxAAV, idxSV, sliceV, sliceSV, boundV, szIs, storeOp, storeS, setRowV, eff, extV, buildV, splice, eqSV, fitsL, eqCells, eqCell, minmaxV, capV, binBV, nilCheckV, bytesV, Orc.nothing, a1, hcc, hcl, V.cells_agg, V.cells_int, V.cells_nils, V.cells_own, V.cells_sl, V.cells_str, V.cells_bool, V.cells_fn, V.cells_ptr, V.cells_rp, V.stays_agg, V.stays_int, V.stays_nils, V.stays_own, V.stays_sl, V.stays_str, V.stays_bool, V.stays_fn, V.stays_ptr, V.stays_rp])
  refine Go.pcall rfl hdc ?_
  (refine Go.of_step Orc.nothing 300 _ _ ?_; simp -implicitDefEqProofs only [BB, Int.reduceEq, Int.reduceNe, Int.reduceLT, Int.reduceLE, Int.reduceGT, Int.reduceGE, Nat.reduceEqDiff, Nat.reduceAdd, Nat.reduceMul, Nat.reduceLeDiff, Nat.reduceSub, Nat.reduceLT, Nat.reduceBEq, ↓reduceIte, reduceCtorEq, ← decide_not, okind, vpre, vpure, intBin, intPre, strBin, strPre, popTo, argSlots, fldV, fldAV, subCells, idxVV, idxAAV, idxSV, sliceV, sliceSV, boundV, szIs, storeOp, storeS, setRowV, eff, extV, buildV, splice, eqSV, fitsL, eqCells, eqCell, minmaxV, capV, binBV, nilCheckV, bytesV, V.cells, V.stays, Orc.nothing])
  refine Go.pcall rfl h ?_
  (refine Go.of_step Orc.nothing 300 _ _ ?_; simp -implicitDefEqProofs only [BB, Int.reduceEq, Int.reduceNe, Int.reduceLT, Int.reduceLE, Int.reduceGT, Int.reduceGE, Nat.reduceEqDiff, Nat.reduceAdd, Nat.reduceMul, Nat.reduceLeDiff, Nat.reduceSub, Nat.reduceLT, Nat.reduceBEq, ↓reduceIte, reduceCtorEq, ← decide_not, okind, vpre, vpure, intBin, intPre, strBin, strPre, popTo, argSlots, fldV, fldAV, subCells, idxVV, idxAAV, idxSV, sliceV, sliceSV, boundV, szIs, storeOp, storeS, setRowV, eff, extV, buildV, splice, eqSV, fitsL, eqCells, eqCell, minmaxV, capV, binBV, nilCheckV, bytesV, Orc.nothing, a1, hcc, hcl, V.cells_agg, V.cells_int, V.cells_nils, V.cells_own, V.cells_sl, V.cells_str, V.cells_bool, V.cells_fn, V.cells_ptr, V.cells_rp, V.stays_agg, V.stays_int, V.stays_nils, V.stays_own, V.stays_sl, V.stays_str, V.stays_bool, V.stays_fn, V.stays_ptr, V.stays_rp])
  refine Go.pcall rfl hbc ?_
  (refine Go.of_step Orc.nothing 300 _ _ ?_; simp -implicitDefEqProofs only [BB, Int.reduceEq, Int.reduceNe, Int.reduceLT, Int.reduceLE, Int.reduceGT, Int.reduceGE, Nat.reduceEqDiff, Nat.reduceAdd, Nat.reduceMul, Nat.reduceLeDiff, Nat.reduceSub, Nat.reduceLT, Nat.reduceBEq, ↓reduceIte, reduceCtorEq, ← decide_not, okind, vpre, vpure, intBin, intPre, strBin, strPre, popTo, argSlots, fldV, fldAV, subCells, idxVV, idxAAV, idxSV, sliceV, sliceSV, boundV, szIs, storeOp, storeS, setRowV, eff, extV, buildV, splice, eqSV, fitsL, eqCells, eqCell, minmaxV, capV, binBV, nilCheckV, bytesV, V.cells, V.stays, Orc.nothing])
  refine effD_new fun id2 σ2 s2 a2 f2 => ?_
  simp -implicitDefEqProofs only [BB, Int.reduceEq, Int.reduceNe, Int.reduceLT, Int.reduceLE, Int.reduceGT, Int.reduceGE, Nat.reduceEqDiff, Nat.reduceAdd, Nat.reduceMul, Nat.reduceLeDiff, Nat.reduceSub, Nat.reduceLT, Nat.reduceBEq, ↓reduceIte, reduceCtorEq, ← decide_not, okind, vpre, vpure, intBin, intPre, strBin, strPre, popTo, argSlots, fldV, fldAV, subCells, idxVV, idxAAV, idxSV, sliceV, sliceSV, boundV, szIs, storeOp, storeS, setRowV, eff, extV, buildV, splice, eqSV, fitsL, eqCells, eqCell, minmaxV, capV, binBV, nilCheckV, bytesV, a2, V.cells_agg, V.cells_int, V.cells_nils, V.cells_own, V.cells_sl, V.cells_str, V.cells_bool, V.cells_fn, V.cells_ptr, V.cells_rp, V.stays_agg, V.stays_int, V.stays_nils, V.stays_own, V.stays_sl, V.stays_str, V.stays_bool, V.stays_fn, V.stays_ptr, V.stays_rp, encE, Ed.cells, Ed.zero, Sty.zero, encNs_cells, encNs_stays, lenV_encNs]
  exact And.intro (fun _ => RetV.pure ((s1.trans s2).updK (s1.none f2)) rfl) (fun h => absurd rfl h)
section
variable {P : Program} {n : Nat} {st : St} {Q : St → Prop} {k : List It}
theorem Go.pcallG {i : VIns} {l : List VIns} {fx : VX} {xs : List VX} {f : FuncId} {caps : List V} {v : V} (hw : wantV st.s i.g = some true) (ho : i.op = .call fx xs)
    (hf : fx.ev st.s = .fn f caps) (hc : PFun P f (xs.map (·.ev st.s) ++ caps) v) (h : Go P n (.d l k) ⟨putO st.s i.dst v, st.σ⟩ Q) : Go P n (.d (i :: l) k) st Q := by
  refine T_true hw ?_
  rw [ho]
  exact ⟨f, caps, v, hf, fun σ1 _ => hc σ1, h⟩
end
theorem hlf_small {l : List Nd} (h : l.length ≤ 5000) (h2 : l.all (fun x => decide (x.words.length ≤ 1000000000)) = true) : Hlf l := ⟨h, fun x hx => by simpa using List.all_eq_true.1 h2 x hx⟩
def L123 : List Nd := [mono 1 1, mono 2 2, mono 3 3]
def E45 : Ed := ⟨1, -1, 1, 1, [mono 4 4, mono 5 5], Sty.zero⟩
def B45 : Ed := ⟨1, -1, 1, 2, [mono 2 2], Sty.zero⟩
def L13 : List Nd := [mono 1 1, mono 3 3]
def Bt : Ed := ⟨1, -1, 1, 1, [], Sty.zero⟩
def Lb1 : List Nd := [blk 2, mono 1 1]
def Lb12 : List Nd := [blk 3, mono 1 1, mono 2 2]
def E2 : Ed := ⟨1, 0, 2, 0, [mono 2 2], Sty.zero⟩
def E3 : Ed := ⟨1, -1, 1, 0, [], Sty.zero⟩
def E4 : Ed := ⟨1, 0, 3, 0, [], Sty.zero⟩
def E5 : Ed := ⟨2, 0, 1, 0, [], plainS⟩
set_option maxRecDepth 100000 in
theorem x1 : doR L123 E45 = some [mono 1 1, mono 4 4, mono 5 5, mono 3 3] := by rw [doR_F]; decide +kernel
set_option maxRecDepth 100000 in
theorem x2 : backC L123 E45 = B45 := by rw [backC, x1]; decide +kernel
set_option maxRecDepth 100000 in
theorem x3 : betweenR L123 L13 = Bt ∧ (isB L123 && isB L13) = true := by rw [betweenR, isB_F, isB_F]; decide +kernel
set_option maxRecDepth 100000 in
theorem x4 : doR Lb1 E2 = some Lb12 := by rw [doR_F]; decide +kernel
set_option maxRecDepth 100000 in
theorem x5 : doR Lb1 E3 = none ∧ doR Lb1 E4 = none ∧ doR Lb1 E5 = none := by simp only [doR_F]; decide +kernel
theorem hl123 : Hlf L123 := hlf_small (by decide) (by decide)
theorem hl13 : Hlf L13 := hlf_small (by decide) (by decide)
theorem hlb1 : Hlf Lb1 := hlf_small (by decide) (by decide)
set_option maxRecDepth 100000 in
theorem awake36_c : PFun Try.prog 19 [] (.bool true) := fun σ => by
  have d1 := back_c L123 E45 hl123 (hlf_small (by decide) (by decide))
  rw [x1, x2] at d1
  have d2 := between_c L123 L13 hl123 hl13
  rw [x3.1, x3.2] at d2
  simp only [if_true, errV, Option.isSome_some] at d1 d2
  have d3 := does_c s123 s1453 L123 [mono 1 1, mono 4 4, mono 5 5, mono 3 3] E45 of123 of1453 hl123 (hlf_small (by decide) (by decide)) (hlf_small (by decide) (by decide)).sml.fine
  rw [x1] at d3
  have d4 := sameE_c B45 B45 (hlf_small (by decide) (by decide)).sml.fine (hlf_small (by decide) (by decide)).sml.fine
  have d5 := does_c sb1 sb12 Lb1 Lb12 E2 ofb1 ofb12 hlb1 (hlf_small (by decide) (by decide)) (hlf_small (by decide) (by decide)).sml.fine
  rw [x4] at d5
  have d6 := none_c sb1 Lb1 E3 ofb1 hlb1 (hlf_small (by decide) (by decide)) x5.1
  have d7 := none_c sb1 Lb1 E4 ofb1 hlb1 (hlf_small (by decide) (by decide)) x5.2.1
  have d8 := none_c sb1 Lb1 E5 ofb1 hlb1 (hlf_small (by decide) (by decide)) x5.2.2
  have d9 := sameE_c Bt Bt (hlf_small (by decide) (by decide)).sml.fine (hlf_small (by decide) (by decide)).sml.fine
  simp only [decide_true] at d3 d4 d5 d9
  obtain ⟨e1, he1⟩ : ∃ v, v = encE B45 := ⟨_, rfl⟩
  have c1 : e1.cells.length = 17 := by rw [he1]; rfl
  have t1 : e1.stays = true := by rw [he1]; rfl
  have a1' : V.agg e1.cells = e1 := by rw [he1]; rfl
  obtain ⟨e2, he2⟩ : ∃ v, v = encE Bt := ⟨_, rfl⟩
  have c2 : e2.cells.length = 17 := by rw [he2]; rfl
  have t2 : e2.stays = true := by rw [he2]; rfl
  have a2' : V.agg e2.cells = e2 := by rw [he2]; rfl
  have w1 := swapS_c s45 _ (-1) 1 1 of45
  have w2 := swapS_c s2 _ (-1) 1 2 of2
  have w3 := swapS_c s2 _ 0 2 0 of2
  have w4 := swapS_c [] _ (-1) 1 0 of0
  have w5 := swapS_c [] _ 0 3 0 of0
  have w6 := swapS_c [] _ (-1) 1 1 of0
  change PFun Try.prog 40 _ (encE B45) at w2
  change PFun Try.prog 40 _ (encE Bt) at w6
  rw [← he1] at d1 d4 w2
  rw [← he2] at d2 d9 w6
  refine Contract.of_runs Try.func19 e19 k19 (by simp [c19]) ?_
  refine Runs.mix 5 ?_
  (refine Runs.of_step Orc.nothing 300 ?_; simp -implicitDefEqProofs only [BB, Int.reduceEq, Int.reduceNe, Int.reduceLT, Int.reduceLE, Int.reduceGT, Int.reduceGE, Nat.reduceEqDiff, Nat.reduceAdd, Nat.reduceMul, Nat.reduceLeDiff, Nat.reduceSub, Nat.reduceLT, Nat.reduceBEq, ↓reduceIte, reduceCtorEq, ← decide_not, okind, vpre, vpure, intBin, intPre, strBin, strPre, popTo, argSlots, fldV, fldAV, subCells, idxVV, idxAAV, idxSV, sliceV, sliceSV, boundV, szIs, storeOp, storeS, setRowV, eff, extV, buildV, splice, eqSV, fitsL, eqCells, eqCell, minmaxV, capV, binBV, nilCheckV, bytesV, V.cells, V.stays, Orc.nothing, c19])
  refine Runs.pcall rfl rfl rfl (of123 _) ?_
  (refine Runs.of_step Orc.nothing 300 ?_; simp -implicitDefEqProofs only [BB, Int.reduceEq, Int.reduceNe, Int.reduceLT, Int.reduceLE, Int.reduceGT, Int.reduceGE, Nat.reduceEqDiff, Nat.reduceAdd, Nat.reduceMul, Nat.reduceLeDiff, Nat.reduceSub, Nat.reduceLT, Nat.reduceBEq, ↓reduceIte, reduceCtorEq, ← decide_not, okind, vpre, vpure, intBin, intPre, strBin, strPre, popTo, argSlots, fldV, fldAV, subCells, idxVV, idxAAV, idxSV, sliceV, sliceSV, boundV, szIs, storeOp, storeS, setRowV, eff, extV, buildV, splice, eqSV, fitsL, eqCells, eqCell, minmaxV, capV, binBV, nilCheckV, bytesV, V.cells, V.stays, Orc.nothing])
  refine Runs.pcall rfl rfl rfl (w1 _) ?_
  (refine Runs.of_step Orc.nothing 300 ?_; simp -implicitDefEqProofs only [BB, Int.reduceEq, Int.reduceNe, Int.reduceLT, Int.reduceLE, Int.reduceGT, Int.reduceGE, Nat.reduceEqDiff, Nat.reduceAdd, Nat.reduceMul, Nat.reduceLeDiff, Nat.reduceSub, Nat.reduceLT, Nat.reduceBEq, ↓reduceIte, reduceCtorEq, ← decide_not, okind, vpre, vpure, intBin, intPre, strBin, strPre, popTo, argSlots, fldV, fldAV, subCells, idxVV, idxAAV, idxSV, sliceV, sliceSV, boundV, szIs, storeOp, storeS, setRowV, eff, extV, buildV, splice, eqSV, fitsL, eqCells, eqCell, minmaxV, capV, binBV, nilCheckV, bytesV, V.cells, V.stays, Orc.nothing])
  refine Runs.pcall rfl rfl rfl (d1 _) ?_
  (refine Runs.of_step Orc.nothing 300 ?_; simp -implicitDefEqProofs only [BB, Int.reduceEq, Int.reduceNe, Int.reduceLT, Int.reduceLE, Int.reduceGT, Int.reduceGE, Nat.reduceEqDiff, Nat.reduceAdd, Nat.reduceMul, Nat.reduceLeDiff, Nat.reduceSub, Nat.reduceLT, Nat.reduceBEq, ↓reduceIte, reduceCtorEq, ← decide_not, okind, vpre, vpure, intBin, intPre, strBin, strPre, popTo, argSlots, fldV, fldAV, subCells, idxVV, idxAAV, idxSV, sliceV, sliceSV, boundV, szIs, storeOp, storeS, setRowV, eff, extV, buildV, splice, eqSV, fitsL, eqCells, eqCell, minmaxV, capV, binBV, nilCheckV, bytesV, Orc.nothing, V.cells_agg, V.cells_int, V.cells_nils, V.cells_own, V.cells_sl, V.cells_str, V.cells_bool, V.cells_fn, V.cells_ptr, V.cells_rp, V.stays_agg, V.stays_int, V.stays_nils, V.stays_own, V.stays_sl, V.stays_str, V.stays_bool, V.stays_fn, V.stays_ptr, V.stays_rp, c1, t1, a1'])
  refine effR_new fun id1 σ1 s1 a1 f1 => ?_
  simp -implicitDefEqProofs only [BB, Int.reduceEq, Int.reduceNe, Int.reduceLT, Int.reduceLE, Int.reduceGT, Int.reduceGE, Nat.reduceEqDiff, Nat.reduceAdd, Nat.reduceMul, Nat.reduceLeDiff, Nat.reduceSub, Nat.reduceLT, Nat.reduceBEq, ↓reduceIte, reduceCtorEq, ← decide_not, okind, vpre, vpure, intBin, intPre, strBin, strPre, popTo, argSlots, fldV, fldAV, subCells, idxVV, idxAAV, idxSV, sliceV, sliceSV, boundV, szIs, storeOp, storeS, setRowV, eff, extV, buildV, splice, eqSV, fitsL, eqCells, eqCell, minmaxV, capV, binBV, nilCheckV, bytesV, a1, V.cells_agg, V.cells_int, V.cells_nils, V.cells_own, V.cells_sl, V.cells_str, V.cells_bool, V.cells_fn, V.cells_ptr, V.cells_rp, V.stays_agg, V.stays_int, V.stays_nils, V.stays_own, V.stays_sl, V.stays_str, V.stays_bool, V.stays_fn, V.stays_ptr, V.stays_rp, c1, t1, a1']
  refine Runs.pcall rfl rfl rfl (of123 _) ?_
  (refine Runs.of_step Orc.nothing 300 ?_; simp -implicitDefEqProofs only [BB, Int.reduceEq, Int.reduceNe, Int.reduceLT, Int.reduceLE, Int.reduceGT, Int.reduceGE, Nat.reduceEqDiff, Nat.reduceAdd, Nat.reduceMul, Nat.reduceLeDiff, Nat.reduceSub, Nat.reduceLT, Nat.reduceBEq, ↓reduceIte, reduceCtorEq, ← decide_not, okind, vpre, vpure, intBin, intPre, strBin, strPre, popTo, argSlots, fldV, fldAV, subCells, idxVV, idxAAV, idxSV, sliceV, sliceSV, boundV, szIs, storeOp, storeS, setRowV, eff, extV, buildV, splice, eqSV, fitsL, eqCells, eqCell, minmaxV, capV, binBV, nilCheckV, bytesV, V.cells, V.stays, Orc.nothing])
  refine Runs.pcall rfl rfl rfl (of13 _) ?_
  (refine Runs.of_step Orc.nothing 300 ?_; simp -implicitDefEqProofs only [BB, Int.reduceEq, Int.reduceNe, Int.reduceLT, Int.reduceLE, Int.reduceGT, Int.reduceGE, Nat.reduceEqDiff, Nat.reduceAdd, Nat.reduceMul, Nat.reduceLeDiff, Nat.reduceSub, Nat.reduceLT, Nat.reduceBEq, ↓reduceIte, reduceCtorEq, ← decide_not, okind, vpre, vpure, intBin, intPre, strBin, strPre, popTo, argSlots, fldV, fldAV, subCells, idxVV, idxAAV, idxSV, sliceV, sliceSV, boundV, szIs, storeOp, storeS, setRowV, eff, extV, buildV, splice, eqSV, fitsL, eqCells, eqCell, minmaxV, capV, binBV, nilCheckV, bytesV, V.cells, V.stays, Orc.nothing])
  refine Runs.pcall rfl rfl rfl (d2 _) ?_
  (refine Runs.of_step Orc.nothing 300 ?_; simp -implicitDefEqProofs only [BB, Int.reduceEq, Int.reduceNe, Int.reduceLT, Int.reduceLE, Int.reduceGT, Int.reduceGE, Nat.reduceEqDiff, Nat.reduceAdd, Nat.reduceMul, Nat.reduceLeDiff, Nat.reduceSub, Nat.reduceLT, Nat.reduceBEq, ↓reduceIte, reduceCtorEq, ← decide_not, okind, vpre, vpure, intBin, intPre, strBin, strPre, popTo, argSlots, fldV, fldAV, subCells, idxVV, idxAAV, idxSV, sliceV, sliceSV, boundV, szIs, storeOp, storeS, setRowV, eff, extV, buildV, splice, eqSV, fitsL, eqCells, eqCell, minmaxV, capV, binBV, nilCheckV, bytesV, Orc.nothing, V.cells_agg, V.cells_int, V.cells_nils, V.cells_own, V.cells_sl, V.cells_str, V.cells_bool, V.cells_fn, V.cells_ptr, V.cells_rp, V.stays_agg, V.stays_int, V.stays_nils, V.stays_own, V.stays_sl, V.stays_str, V.stays_bool, V.stays_fn, V.stays_ptr, V.stays_rp, c2, t2, a2'])
  refine effR_new fun id2 σ2 s2 a2 f2 => ?_
  have b1 := s2 _ _ upd_same
  simp -implicitDefEqProofs only [BB, Int.reduceEq, Int.reduceNe, Int.reduceLT, Int.reduceLE, Int.reduceGT, Int.reduceGE, Nat.reduceEqDiff, Nat.reduceAdd, Nat.reduceMul, Nat.reduceLeDiff, Nat.reduceSub, Nat.reduceLT, Nat.reduceBEq, ↓reduceIte, reduceCtorEq, ← decide_not, okind, vpre, vpure, intBin, intPre, strBin, strPre, popTo, argSlots, fldV, fldAV, subCells, idxVV, idxAAV, idxSV, sliceV, sliceSV, boundV, szIs, storeOp, storeS, setRowV, eff, extV, buildV, splice, eqSV, fitsL, eqCells, eqCell, minmaxV, capV, binBV, nilCheckV, bytesV, a2, V.cells_agg, V.cells_int, V.cells_nils, V.cells_own, V.cells_sl, V.cells_str, V.cells_bool, V.cells_fn, V.cells_ptr, V.cells_rp, V.stays_agg, V.stays_int, V.stays_nils, V.stays_own, V.stays_sl, V.stays_str, V.stays_bool, V.stays_fn, V.stays_ptr, V.stays_rp, c2, t2, a2']
  refine Go.pcallG rfl rfl rfl w1 ?_
  (refine Go.of_step Orc.nothing 300 _ _ ?_; simp -implicitDefEqProofs only [BB, Int.reduceEq, Int.reduceNe, Int.reduceLT, Int.reduceLE, Int.reduceGT, Int.reduceGE, Nat.reduceEqDiff, Nat.reduceAdd, Nat.reduceMul, Nat.reduceLeDiff, Nat.reduceSub, Nat.reduceLT, Nat.reduceBEq, ↓reduceIte, reduceCtorEq, ← decide_not, okind, vpre, vpure, intBin, intPre, strBin, strPre, popTo, argSlots, fldV, fldAV, subCells, idxVV, idxAAV, idxSV, sliceV, sliceSV, boundV, szIs, storeOp, storeS, setRowV, eff, extV, buildV, splice, eqSV, fitsL, eqCells, eqCell, minmaxV, capV, binBV, nilCheckV, bytesV, V.cells, V.stays, Orc.nothing])
  refine Go.pcallG rfl rfl rfl d3 ?_
  (refine Go.of_step Orc.nothing 300 _ _ ?_; simp -implicitDefEqProofs only [BB, Int.reduceEq, Int.reduceNe, Int.reduceLT, Int.reduceLE, Int.reduceGT, Int.reduceGE, Nat.reduceEqDiff, Nat.reduceAdd, Nat.reduceMul, Nat.reduceLeDiff, Nat.reduceSub, Nat.reduceLT, Nat.reduceBEq, ↓reduceIte, reduceCtorEq, ← decide_not, okind, vpre, vpure, intBin, intPre, strBin, strPre, popTo, argSlots, fldV, fldAV, subCells, idxVV, idxAAV, idxSV, sliceV, sliceSV, boundV, szIs, storeOp, storeS, setRowV, eff, extV, buildV, splice, eqSV, fitsL, eqCells, eqCell, minmaxV, capV, binBV, nilCheckV, bytesV, Orc.nothing, upd_ne (ne_new upd_same f2), b1, V.cells_agg, V.cells_int, V.cells_nils, V.cells_own, V.cells_sl, V.cells_str, V.cells_bool, V.cells_fn, V.cells_ptr, V.cells_rp, V.stays_agg, V.stays_int, V.stays_nils, V.stays_own, V.stays_sl, V.stays_str, V.stays_bool, V.stays_fn, V.stays_ptr, V.stays_rp, c1, a1'])
  refine Go.pcallG rfl rfl rfl w2 ?_
  (refine Go.of_step Orc.nothing 300 _ _ ?_; simp -implicitDefEqProofs only [BB, Int.reduceEq, Int.reduceNe, Int.reduceLT, Int.reduceLE, Int.reduceGT, Int.reduceGE, Nat.reduceEqDiff, Nat.reduceAdd, Nat.reduceMul, Nat.reduceLeDiff, Nat.reduceSub, Nat.reduceLT, Nat.reduceBEq, ↓reduceIte, reduceCtorEq, ← decide_not, okind, vpre, vpure, intBin, intPre, strBin, strPre, popTo, argSlots, fldV, fldAV, subCells, idxVV, idxAAV, idxSV, sliceV, sliceSV, boundV, szIs, storeOp, storeS, setRowV, eff, extV, buildV, splice, eqSV, fitsL, eqCells, eqCell, minmaxV, capV, binBV, nilCheckV, bytesV, V.cells, V.stays, Orc.nothing])
  refine Go.pcallG rfl rfl rfl d4 ?_
  (refine Go.of_step Orc.nothing 300 _ _ ?_; simp -implicitDefEqProofs only [BB, Int.reduceEq, Int.reduceNe, Int.reduceLT, Int.reduceLE, Int.reduceGT, Int.reduceGE, Nat.reduceEqDiff, Nat.reduceAdd, Nat.reduceMul, Nat.reduceLeDiff, Nat.reduceSub, Nat.reduceLT, Nat.reduceBEq, ↓reduceIte, reduceCtorEq, ← decide_not, okind, vpre, vpure, intBin, intPre, strBin, strPre, popTo, argSlots, fldV, fldAV, subCells, idxVV, idxAAV, idxSV, sliceV, sliceSV, boundV, szIs, storeOp, storeS, setRowV, eff, extV, buildV, splice, eqSV, fitsL, eqCells, eqCell, minmaxV, capV, binBV, nilCheckV, bytesV, V.cells, V.stays, Orc.nothing])
  refine Go.pcallG rfl rfl rfl w3 ?_
  (refine Go.of_step Orc.nothing 300 _ _ ?_; simp -implicitDefEqProofs only [BB, Int.reduceEq, Int.reduceNe, Int.reduceLT, Int.reduceLE, Int.reduceGT, Int.reduceGE, Nat.reduceEqDiff, Nat.reduceAdd, Nat.reduceMul, Nat.reduceLeDiff, Nat.reduceSub, Nat.reduceLT, Nat.reduceBEq, ↓reduceIte, reduceCtorEq, ← decide_not, okind, vpre, vpure, intBin, intPre, strBin, strPre, popTo, argSlots, fldV, fldAV, subCells, idxVV, idxAAV, idxSV, sliceV, sliceSV, boundV, szIs, storeOp, storeS, setRowV, eff, extV, buildV, splice, eqSV, fitsL, eqCells, eqCell, minmaxV, capV, binBV, nilCheckV, bytesV, V.cells, V.stays, Orc.nothing])
  refine Go.pcallG rfl rfl rfl d5 ?_
  (refine Go.of_step Orc.nothing 300 _ _ ?_; simp -implicitDefEqProofs only [BB, Int.reduceEq, Int.reduceNe, Int.reduceLT, Int.reduceLE, Int.reduceGT, Int.reduceGE, Nat.reduceEqDiff, Nat.reduceAdd, Nat.reduceMul, Nat.reduceLeDiff, Nat.reduceSub, Nat.reduceLT, Nat.reduceBEq, ↓reduceIte, reduceCtorEq, ← decide_not, okind, vpre, vpure, intBin, intPre, strBin, strPre, popTo, argSlots, fldV, fldAV, subCells, idxVV, idxAAV, idxSV, sliceV, sliceSV, boundV, szIs, storeOp, storeS, setRowV, eff, extV, buildV, splice, eqSV, fitsL, eqCells, eqCell, minmaxV, capV, binBV, nilCheckV, bytesV, V.cells, V.stays, Orc.nothing])
  refine Go.pcallG rfl rfl rfl w4 ?_
  (refine Go.of_step Orc.nothing 300 _ _ ?_; simp -implicitDefEqProofs only [BB, Int.reduceEq, Int.reduceNe, Int.reduceLT, Int.reduceLE, Int.reduceGT, Int.reduceGE, Nat.reduceEqDiff, Nat.reduceAdd, Nat.reduceMul, Nat.reduceLeDiff, Nat.reduceSub, Nat.reduceLT, Nat.reduceBEq, ↓reduceIte, reduceCtorEq, ← decide_not, okind, vpre, vpure, intBin, intPre, strBin, strPre, popTo, argSlots, fldV, fldAV, subCells, idxVV, idxAAV, idxSV, sliceV, sliceSV, boundV, szIs, storeOp, storeS, setRowV, eff, extV, buildV, splice, eqSV, fitsL, eqCells, eqCell, minmaxV, capV, binBV, nilCheckV, bytesV, V.cells, V.stays, Orc.nothing])
  refine Go.pcallG rfl rfl rfl d6 ?_
  (refine Go.of_step Orc.nothing 300 _ _ ?_; simp -implicitDefEqProofs only [BB, Int.reduceEq, Int.reduceNe, Int.reduceLT, Int.reduceLE, Int.reduceGT, Int.reduceGE, Nat.reduceEqDiff, Nat.reduceAdd, Nat.reduceMul, Nat.reduceLeDiff, Nat.reduceSub, Nat.reduceLT, Nat.reduceBEq, ↓reduceIte, reduceCtorEq, ← decide_not, okind, vpre, vpure, intBin, intPre, strBin, strPre, popTo, argSlots, fldV, fldAV, subCells, idxVV, idxAAV, idxSV, sliceV, sliceSV, boundV, szIs, storeOp, storeS, setRowV, eff, extV, buildV, splice, eqSV, fitsL, eqCells, eqCell, minmaxV, capV, binBV, nilCheckV, bytesV, V.cells, V.stays, Orc.nothing])
  refine Go.pcallG rfl rfl rfl w5 ?_
  (refine Go.of_step Orc.nothing 300 _ _ ?_; simp -implicitDefEqProofs only [BB, Int.reduceEq, Int.reduceNe, Int.reduceLT, Int.reduceLE, Int.reduceGT, Int.reduceGE, Nat.reduceEqDiff, Nat.reduceAdd, Nat.reduceMul, Nat.reduceLeDiff, Nat.reduceSub, Nat.reduceLT, Nat.reduceBEq, ↓reduceIte, reduceCtorEq, ← decide_not, okind, vpre, vpure, intBin, intPre, strBin, strPre, popTo, argSlots, fldV, fldAV, subCells, idxVV, idxAAV, idxSV, sliceV, sliceSV, boundV, szIs, storeOp, storeS, setRowV, eff, extV, buildV, splice, eqSV, fitsL, eqCells, eqCell, minmaxV, capV, binBV, nilCheckV, bytesV, V.cells, V.stays, Orc.nothing])
  refine Go.pcallG rfl rfl rfl d7 ?_
  (refine Go.of_step Orc.nothing 300 _ _ ?_; simp -implicitDefEqProofs only [BB, Int.reduceEq, Int.reduceNe, Int.reduceLT, Int.reduceLE, Int.reduceGT, Int.reduceGE, Nat.reduceEqDiff, Nat.reduceAdd, Nat.reduceMul, Nat.reduceLeDiff, Nat.reduceSub, Nat.reduceLT, Nat.reduceBEq, ↓reduceIte, reduceCtorEq, ← decide_not, okind, vpre, vpure, intBin, intPre, strBin, strPre, popTo, argSlots, fldV, fldAV, subCells, idxVV, idxAAV, idxSV, sliceV, sliceSV, boundV, szIs, storeOp, storeS, setRowV, eff, extV, buildV, splice, eqSV, fitsL, eqCells, eqCell, minmaxV, capV, binBV, nilCheckV, bytesV, V.cells, V.stays, Orc.nothing])
  refine Go.pcallG rfl rfl rfl plain_c ?_
  have hbu : buildV [.int .i64 0, .int .i64 0, .int .i64 0, .int .i64 0, .nils, .int .i64 0, .int .i64 0, .int .i64 0, .int .i64 0, .int .i64 0, .int .i64 0, .int .i64 0, .int .i64 0, .int .i64 0, .int .i64 0, .int .i64 0, .int .i64 0]
      [(0, 1, .int .i64 2), (2, 1, .int .i64 1), (5, 12, .agg plainS.cells)] = some [.int .i64 2, .int .i64 0, .int .i64 1, .int .i64 0, .nils, .int .i64 0, .int .i64 0, .int .i64 0, .int .i64 0, .int .i64 0, .int .i64 2, .int .i64 2, .int .i64 0, .int .i64 0, .int .i64 0, .int .i64 0, .int .i64 0] := rfl
  (refine Go.of_step Orc.nothing 300 _ _ ?_; simp -implicitDefEqProofs only [BB, Int.reduceEq, Int.reduceNe, Int.reduceLT, Int.reduceLE, Int.reduceGT, Int.reduceGE, Nat.reduceEqDiff, Nat.reduceAdd, Nat.reduceMul, Nat.reduceLeDiff, Nat.reduceSub, Nat.reduceLT, Nat.reduceBEq, ↓reduceIte, reduceCtorEq, ← decide_not, okind, vpre, vpure, intBin, intPre, strBin, strPre, popTo, argSlots, fldV, fldAV, subCells, idxVV, idxAAV, idxSV, sliceV, sliceSV, boundV, szIs, storeOp, storeS, setRowV, eff, extV, splice, eqSV, fitsL, eqCells, eqCell, minmaxV, capV, binBV, nilCheckV, bytesV, V.cells, V.stays, Orc.nothing, hbu])
  have d8' : PFun Try.prog 42 [.str sb1, .agg [.int .i64 2, .int .i64 0, .int .i64 1, .int .i64 0, .nils, .int .i64 0, .int .i64 0, .int .i64 0, .int .i64 0, .int .i64 0, .int .i64 2, .int .i64 2, .int .i64 0, .int .i64 0, .int .i64 0, .int .i64 0, .int .i64 0]] (.bool true) :=
    fun σ => PFun.borrow (by simp only [WkL]; exact ⟨Wk.refl (nost_sub σ) _, wk_edN (nost_sub σ) 2 0 1 0 plainS, trivial⟩) d8 rfl
  refine Go.pcallG rfl rfl rfl d8' ?_
  (refine Go.of_step Orc.nothing 300 _ _ ?_; simp -implicitDefEqProofs only [BB, Int.reduceEq, Int.reduceNe, Int.reduceLT, Int.reduceLE, Int.reduceGT, Int.reduceGE, Nat.reduceEqDiff, Nat.reduceAdd, Nat.reduceMul, Nat.reduceLeDiff, Nat.reduceSub, Nat.reduceLT, Nat.reduceBEq, ↓reduceIte, reduceCtorEq, ← decide_not, okind, vpre, vpure, intBin, intPre, strBin, strPre, popTo, argSlots, fldV, fldAV, subCells, idxVV, idxAAV, idxSV, sliceV, sliceSV, boundV, szIs, storeOp, storeS, setRowV, eff, extV, buildV, splice, eqSV, fitsL, eqCells, eqCell, minmaxV, capV, binBV, nilCheckV, bytesV, Orc.nothing, V.cells_agg, V.cells_int, V.cells_nils, V.cells_own, V.cells_sl, V.cells_str, V.cells_bool, V.cells_fn, V.cells_ptr, V.cells_rp, V.stays_agg, V.stays_int, V.stays_nils, V.stays_own, V.stays_sl, V.stays_str, V.stays_bool, V.stays_fn, V.stays_ptr, V.stays_rp, a2, c2, a2', upd_same])
  refine Go.pcallG rfl rfl rfl w6 ?_
  (refine Go.of_step Orc.nothing 300 _ _ ?_; simp -implicitDefEqProofs only [BB, Int.reduceEq, Int.reduceNe, Int.reduceLT, Int.reduceLE, Int.reduceGT, Int.reduceGE, Nat.reduceEqDiff, Nat.reduceAdd, Nat.reduceMul, Nat.reduceLeDiff, Nat.reduceSub, Nat.reduceLT, Nat.reduceBEq, ↓reduceIte, reduceCtorEq, ← decide_not, okind, vpre, vpure, intBin, intPre, strBin, strPre, popTo, argSlots, fldV, fldAV, subCells, idxVV, idxAAV, idxSV, sliceV, sliceSV, boundV, szIs, storeOp, storeS, setRowV, eff, extV, buildV, splice, eqSV, fitsL, eqCells, eqCell, minmaxV, capV, binBV, nilCheckV, bytesV, V.cells, V.stays, Orc.nothing])
  refine Go.pcallG rfl rfl rfl d9 ?_
  (refine Go.of_step Orc.nothing 300 _ _ ?_; simp -implicitDefEqProofs only [BB, Int.reduceEq, Int.reduceNe, Int.reduceLT, Int.reduceLE, Int.reduceGT, Int.reduceGE, Nat.reduceEqDiff, Nat.reduceAdd, Nat.reduceMul, Nat.reduceLeDiff, Nat.reduceSub, Nat.reduceLT, Nat.reduceBEq, ↓reduceIte, reduceCtorEq, ← decide_not, okind, vpre, vpure, intBin, intPre, strBin, strPre, popTo, argSlots, fldV, fldAV, subCells, idxVV, idxAAV, idxSV, sliceV, sliceSV, boundV, szIs, storeOp, storeS, setRowV, eff, extV, buildV, splice, eqSV, fitsL, eqCells, eqCell, minmaxV, capV, binBV, nilCheckV, bytesV, V.cells, V.stays, Orc.nothing])
  exact RetV.pure (((s1.updK f1).trans s2).updK ((s1.updK f1).none f2)) rfl
end Go.Vc
namespace Go.Vc
open Go.Proofs
section
variable {P : Program} {n : Nat} {st : St} {Q : St → Prop} {k : List It}
theorem cop_bin {o : Op} {op : BinOp} {x y : VX} (h : cop P n o = .bin op x y) : ∃ t x0 y0 yt, o = .binOp op t x0 y0 yt ∧ cx n x0 = x ∧ cx n y0 = y := by
  cases o
  case binOp op' t x0 y0 yt =>
    simp only [cop, nilB] at h
    split at h
    · split at h <;> cases h
    · split at h
      · split at h <;> cases h
      · cases h
    · split at h
      · split at h <;> cases h
      · simp only [VOp.bin.injEq] at h
        obtain ⟨rfl, h2, h3⟩ := h
        exact ⟨t, x0, y0, yt, rfl, h2, h3⟩
  case call c =>
    obtain ⟨callee, args, argTypes⟩ := c
    cases callee
    case builtin b => cases b <;> simp only [cop, nilB] at h <;> (repeat' split at h) <;> cases h
    all_goals (simp only [cop, nilB] at h; cases h)
  case unOp op t x => cases op <;> simp only [cop, nilB] at h <;> cases h
  case makeFunc f a b => cases f <;> simp only [cop, nilB] at h <;> (repeat' split at h) <;> cases h
  all_goals (simp only [cop, nilB] at h; (repeat' split at h) <;> cases h)
/-- a sum, be it cut to 64 bits -/
theorem Runs.addW {i : VIns} {l : List VIns} {x y : VX} {kk : IntKind} {a b : Int} (hw : wantV st.s i.g = some true) (ho : i.op = .bin .add x y) (hx : x.ev st.s = .int kk a) (hy : y.ev st.s = .int kk b)
    (h : Runs P n (.ops l :: k) ⟨putO st.s i.dst (.int kk (kk.wrap (a + b))), st.σ⟩ Q) : Runs P n (.ops (i :: l) :: k) st Q := by
  refine Runs.ins hw fun F hn μ act w o all hi hs next Q' hnext => ?_
  subst hn
  obtain ⟨hop, hd⟩ := cins_op hi
  rw [ho] at hop
  obtain ⟨t, x0, y0, yt, g1, rfl, rfl⟩ := cop_bin hop
  have ex : act.eval x0 = .int kk a := by
    have := rep_cx hs x0
    rw [hx] at this
    simpa [Rep] using this
  have ey : act.eval y0 = .int kk b := by
    have := rep_cx hs y0
    rw [hy] at this
    simpa [Rep] using this
  have hrun : (execOp act.eval o).run P w = .ok (.value (.int kk (kk.wrap (a + b)))) w := by
    unfold execOp
    rw [g1]
    simp [ex, ey, eqGuard, binOp, Op.intArith]
  unfold Oper.wp
  rw [hrun]
  refine hnext _ _ _ ⟨μ, ?_⟩ h
  have := hs.pure (d := o.dst) (v := .int kk (kk.wrap (a + b))) (x := .int kk (kk.wrap (a + b))) (by simp [Rep])
  rw [← hd]
  exact this
end
def wsum (l : List Nd) : Nat := (l.map fun x => x.words.length).sum
def vastR (l : List Nd) : Bool := decide (40 < l.length) || decide (200 < wsum l)
theorem wsum_take {l : List Nd} {i : Nat} (h : i < l.length) : wsum (l.take (i + 1)) = wsum (l.take i) + l[i].words.length := by
  rw [wsum, List.take_succ_eq_append_getElem h, List.map_append, List.sum_append]
  simp [wsum]
theorem wsum_le {l : List Nd} {B : Nat} (h : ∀ x ∈ l, x.words.length ≤ B) : wsum l ≤ l.length * B := by
  induction l with
  | nil => simp [wsum]
  | cons x l ih =>
    have h1 := h x (by simp)
    have h2 := ih fun y hy => h y (by simp [hy])
    simp only [wsum, List.map_cons, List.sum_cons, List.length_cons, Nat.add_mul] at h2 ⊢
    omega
theorem wsum_mem {l : List Nd} {x : Nd} (h : x ∈ l) : x.words.length ≤ wsum l := by
  induction l with
  | nil => simp at h
  | cons y l ih =>
    simp only [wsum, List.map_cons, List.sum_cons]
    rcases List.mem_cons.1 h with rfl | h
    · omega
    · have := ih h; simp only [wsum] at this; omega
theorem vastR_len {l : List Nd} (h : vastR l = false) : Len 40 l := by
  simp only [vastR, Bool.or_eq_false_iff, decide_eq_false_iff_not] at h
  exact ⟨by omega, fun x hx => by have := wsum_mem hx; omega⟩
set_option maxRecDepth 100000 in
theorem vast_c (l : List Nd) (hlen : l.length ≤ 1000000000000) (hw : ∀ x ∈ l, x.words.length ≤ 200000000000000) : PFun Try.prog 18 [encNs l] (.bool (vastR l)) := fun σ => by
  refine Contract.of_runs Try.func18 e18 k18 (by simp [c18]) ?_
  refine Runs.mix 5 ?_
  (refine Runs.of_step Orc.nothing 300 ?_; simp -implicitDefEqProofs only [BB, Int.reduceEq, Int.reduceNe, Int.reduceLT, Int.reduceLE, Int.reduceGT, Int.reduceGE, Nat.reduceEqDiff, Nat.reduceAdd, Nat.reduceMul, Nat.reduceLeDiff, Nat.reduceSub, Nat.reduceLT, Nat.reduceBEq, ↓reduceIte, reduceCtorEq, ← decide_not, okind, vpre, vpure, intBin, intPre, strBin, strPre, popTo, argSlots, fldV, fldAV, subCells, idxVV, idxAAV, idxSV, sliceV, sliceSV, boundV, szIs, storeOp, storeS, setRowV, eff, extV, buildV, splice, eqSV, fitsL, eqCells, eqCell, minmaxV, capV, binBV, nilCheckV, bytesV, V.cells, V.stays, Orc.nothing, c18])
  refine Runs.loop (fun m st => ∃ (i : Nat) (c : Int), i ≤ l.length ∧ m = l.length - i ∧ st.σ = σ ∧ st.s 0 = encNs l ∧ st.s 3 = vI c ∧ (l.length ≤ 40 → c = wsum (l.take i)) ∧ st.s 4 = vI i) l.length ?_ ?_
  · exact ⟨0, 0, by omega, by omega, rfl, rfl, rfl, fun _ => by simp [wsum], rfl⟩
  · rintro m ⟨s, σ'⟩ ⟨i, c, hi, rfl, hσ, h0, h3, hc, h4⟩
    simp only at hσ h0 h3 h4
    subst hσ
    refine Runs.mix 5 ?_
    by_cases hlt : (i : Int) < l.length
    · have hil : i < l.length := by omega
      have hwi := hw _ (List.getElem_mem hil)
      have hws := wsum_take hil
      have hdt : decide ((i : Int) < l.length) = true := decide_eq_true hlt
      (refine Runs.of_step Orc.nothing 20 ?_; simp -implicitDefEqProofs only [BB, Int.reduceEq, Int.reduceNe, Int.reduceLT, Int.reduceLE, Int.reduceGT, Int.reduceGE, Nat.reduceEqDiff, Nat.reduceAdd, Nat.reduceMul, Nat.reduceLeDiff, Nat.reduceSub, Nat.reduceLT, Nat.reduceBEq, ↓reduceIte, reduceCtorEq, ← decide_not, okind, vpre, vpure, intBin, intPre, strBin, strPre, popTo, argSlots, fldV, fldAV, subCells, idxVV, idxAAV, idxSV, sliceV, sliceSV, boundV, szIs, storeOp, storeS, setRowV, eff, extV, buildV, splice, eqSV, fitsL, eqCells, eqCell, minmaxV, capV, binBV, nilCheckV, bytesV, V.cells, V.stays, s_zero, Orc.nothing, h0, h3, h4, lenV_encNs, hlt, hdt, idxAV_encNs hil, Nd.cells, lenV_encI, loadV_rp_encI])
      refine Runs.addW rfl rfl rfl rfl ?_
      by_cases h40 : l.length ≤ 40
      · have hc' := hc h40
        have hwr : IntKind.i64.wrap (c + (l[i].words.length : Int)) = c + l[i].words.length := by
          have hsum := wsum_le (l := l.take i) (B := 200000000000000) (fun x hx => hw x (List.mem_of_mem_take hx))
          have : (l.take i).length ≤ 40 := by simp; omega
          have : wsum (l.take i) ≤ 40 * 200000000000000 := Nat.le_trans hsum (Nat.mul_le_mul_right _ this)
          rw [IntKind.wrap_i64]; omega
        rw [hwr]
        (refine Runs.of_step Orc.nothing 300 ?_; simp -implicitDefEqProofs only [BB, Int.reduceEq, Int.reduceNe, Int.reduceLT, Int.reduceLE, Int.reduceGT, Int.reduceGE, Nat.reduceEqDiff, Nat.reduceAdd, Nat.reduceMul, Nat.reduceLeDiff, Nat.reduceSub, Nat.reduceLT, Nat.reduceBEq, ↓reduceIte, reduceCtorEq, ← decide_not, okind, vpre, vpure, intBin, intPre, strBin, strPre, popTo, argSlots, fldV, fldAV, subCells, idxVV, idxAAV, idxSV, sliceV, sliceSV, boundV, szIs, storeOp, storeS, setRowV, eff, extV, buildV, splice, eqSV, fitsL, eqCells, eqCell, minmaxV, capV, binBV, nilCheckV, bytesV, V.cells, V.stays, Orc.nothing, h0, h4])
        refine ⟨inR_i64 (by omega) (by omega), _, ?_, i + 1, _, by omega, rfl, rfl, ?_, ?_⟩
        · omega
        · intro _; rw [hws, hc']; omega
        · simp
      · (refine Runs.of_step Orc.nothing 300 ?_; simp -implicitDefEqProofs only [BB, Int.reduceEq, Int.reduceNe, Int.reduceLT, Int.reduceLE, Int.reduceGT, Int.reduceGE, Nat.reduceEqDiff, Nat.reduceAdd, Nat.reduceMul, Nat.reduceLeDiff, Nat.reduceSub, Nat.reduceLT, Nat.reduceBEq, ↓reduceIte, reduceCtorEq, ← decide_not, okind, vpre, vpure, intBin, intPre, strBin, strPre, popTo, argSlots, fldV, fldAV, subCells, idxVV, idxAAV, idxSV, sliceV, sliceSV, boundV, szIs, storeOp, storeS, setRowV, eff, extV, buildV, splice, eqSV, fitsL, eqCells, eqCell, minmaxV, capV, binBV, nilCheckV, bytesV, V.cells, V.stays, Orc.nothing, h0, h4])
        refine ⟨inR_i64 (by omega) (by omega), _, ?_, i + 1, _, by omega, rfl, rfl, ?_, ?_⟩
        · omega
        · intro h; omega
        · simp
    · have hie : i = l.length := by omega
      subst hie
      rw [List.take_length] at hc
      have hlt2 : ¬ ((l.length : Int) < l.length) := by omega
      (refine Runs.of_step Orc.nothing 300 ?_; simp -implicitDefEqProofs only [BB, Int.reduceEq, Int.reduceNe, Int.reduceLT, Int.reduceLE, Int.reduceGT, Int.reduceGE, Nat.reduceEqDiff, Nat.reduceAdd, Nat.reduceMul, Nat.reduceLeDiff, Nat.reduceSub, Nat.reduceLT, Nat.reduceBEq, ↓reduceIte, reduceCtorEq, ← decide_not, okind, vpre, vpure, intBin, intPre, strBin, strPre, popTo, argSlots, fldV, fldAV, subCells, idxVV, idxAAV, idxSV, sliceV, sliceSV, boundV, szIs, storeOp, storeS, setRowV, eff, extV, buildV, splice, eqSV, fitsL, eqCells, eqCell, minmaxV, capV, binBV, nilCheckV, bytesV, V.cells, V.stays, Orc.nothing, h0, h3, h4, lenV_encNs, hlt2])
      refine And.intro (fun h => ?_) (fun h => ?_)
      · refine RetV.same ?_
        rw [hc (by omega), vastR]
        have h1 : decide (40 < l.length) = false := decide_eq_false (by omega)
        rw [h1, Bool.false_or, V.bool.injEq, Bool.eq_iff_iff, decide_eq_true_eq, decide_eq_true_eq]
        omega
      · refine RetV.same ?_
        have h1 : decide (40 < l.length) = true := decide_eq_true (by omega)
        rw [vastR, h1, Bool.true_or]
end Go.Vc
namespace Go.Vc
open Go.Proofs
theorem Srt.inj {a : Int} {l : List Int} (h : Srt a l) {i j : Nat} {x : Int} (hi : l[i]? = some x) (hj : l[j]? = some x) : i = j := by
  rcases Nat.le_total i j with hl | hl
  · have := Srt.lt_of_get h i j x x hl hi hj; omega
  · have := Srt.lt_of_get h j i x x hl hj hi; omega
end Go.Vc
namespace Go.Vc
open Go.Proofs
section
variable {P : Program} {n : Nat} {Q : St → Prop}
end
theorem OutV.src {K σ : Store} {e sz : Nat} {v : V} {rows : List V} (h : OutV K σ e sz v rows) {σ1 : Store} (hs : SubStore σ σ1) : srcRows σ1 sz v = some rows := by
  rcases h with ⟨rfl, rfl⟩ | ⟨id, rfl, ho, hk⟩
  · rfl
  · simp only [srcRows, hs _ _ ho]
    rw [if_pos (by simp)]
    simp
end Go.Vc
namespace Go.Vc
open Go.Proofs
set_option maxRecDepth 100000 in
theorem agg_39 : aggT Try.prog 39 = true := by kernel_rfl
def Nd.realL (l : List Nd) : Prop := l.length ≤ 800000000000 ∧ ∀ x ∈ l, x.real
def Ed.real (x : Ed) : Prop := Nd.realL x.sub
theorem realL_lim {l : List Nd} (h : Nd.realL l) : l.length ≤ 1000000000000 ∧ ∀ x ∈ l, x.words.length ≤ 200000000000000 :=
  ⟨by have := h.1; omega, fun x hx => by have := (h.2 x hx).2.1; omega⟩
set_option maxRecDepth 100000 in
theorem shp_edit {n : Nat} {vs : List V} (h : ShpC Try.prog (n + 5) 39 vs) : ∃ x : Ed, vs = x.cells ∧ x.real := by
  replace h := shpC_struct Try.underlying39 h
  simp only [ShpFs] at h
  obtain ⟨_, _, rfl, h1, _, _, rfl, h2, _, _, rfl, h3, _, _, rfl, h4, _, _, rfl, h5, _, _, rfl, h6, rfl⟩ := h
  obtain ⟨m1, rfl, g1⟩ := shp_int h1
  obtain ⟨m2, rfl, g2⟩ := shp_int h2
  obtain ⟨m3, rfl, g3⟩ := shp_int h3
  obtain ⟨m4, rfl, g4⟩ := shp_int h4
  obtain ⟨l, rfl, g5, g5'⟩ := shp_nodes h5
  obtain ⟨s, rfl, g6⟩ := shp_style h6
  exact ⟨⟨m1, m2, m3, m4, l, s⟩, rfl, g5, g5'⟩
set_option maxRecDepth 100000 in
theorem arg_edit {n : Nat} {vs : List V} (h : ShpC Try.prog (n + 5) 39 vs) : ∃ x : Ed, argOf Try.prog 39 vs = encE x ∧ x.real := by
  obtain ⟨x, rfl, hx⟩ := shp_edit h
  exact ⟨x, by unfold argOf; rw [agg_39]; rfl, hx⟩
set_option maxRecDepth 100000 in
theorem arg_nodesL {n : Nat} {vs : List V} (h : ShpC Try.prog (n + 4) 22 vs) : ∃ l, argOf Try.prog 22 vs = encNs l ∧ Nd.realL l := by
  obtain ⟨l, h1, h2, h3⟩ := arg_nodes h
  exact ⟨l, h1, h2, h3⟩
end Go.Vc
namespace Go.Vc
open Go.Proofs
/-- a tree ends where the next one begins -/
theorem kidsW_next {l : List Nd} {e : Nat} (he : e ≤ l.length) : ∀ (m a : Nat), e - a < m → a ≤ e → rowsB l a e = true → ∀ (n : Nat) (k : Int), (kidsW l a e)[n]? = some k → (kidsW l a e ++ [(e : Int)])[n + 1]? = some (k + szI l k.toNat)
  | 0, _, h, _, _, _, _, _ => by omega
  | m + 1, a, h, hae, hr, n, k, hk => by
    by_cases h0 : a = e
    · subst h0; rw [kidsW_nil (Nat.le_refl _)] at hk; simp at hk
    · have hlt : a < e := by omega
      have hal : a < l.length := by omega
      obtain ⟨y1, y2⟩ := rowsB_ends he hr (Nat.le_refl a) hlt
      obtain ⟨hr2, _⟩ := rowsB_next he hr hlt
      have hse := szI_eq hal
      rw [kidsW_cons hlt hal (by omega), ← hse] at hk ⊢
      cases n with
      | zero =>
        simp only [List.getElem?_cons_zero, Option.some.injEq] at hk
        subst hk
        rw [List.cons_append, List.getElem?_cons_succ, kidsW_head (by omega) he hr2]
        simp only [Int.toNat_natCast, Option.some.injEq]
        omega
      | succ n =>
        rw [List.getElem?_cons_succ] at hk
        rw [List.cons_append, List.getElem?_cons_succ]
        exact kidsW_next he m (a + (szI l a).toNat) (by omega) (by omega) hr2 n k hk
/-- where the first trees end -/
theorem trees_pos {l : List Nd} (hb : isB l = true) : ∀ n, n ≤ (kidsR l (-1)).length → (kidsR l (-1) ++ [(l.length : Int)])[n]? = some (((treesR l).take n).flatten.length : Int)
  | 0, _ => by
    have hrows : rowsB l 0 l.length = true := by simp only [isB, Bool.and_eq_true] at hb; exact hb.2
    rw [kidsR_top hb, kidsW_head (Nat.zero_le _) (Nat.le_refl _) hrows]
    simp
  | n + 1, h => by
    have hrows : rowsB l 0 l.length = true := by simp only [isB, Bool.and_eq_true] at hb; exact hb.2
    have ih := trees_pos hb n (by omega)
    have hn : n < (kidsR l (-1)).length := by omega
    rw [List.getElem?_append_left hn] at ih
    have hx := kidsW_next (Nat.le_refl _) (l.length + 1) 0 (by omega) (Nat.zero_le _) hrows n _ (by rw [← kidsR_top hb]; exact ih)
    rw [← kidsR_top hb] at hx
    rw [hx]
    have hnt : n < (treesR l).length := by rw [treesR, List.length_map]; exact hn
    rw [List.take_succ_eq_append_getElem hnt, List.flatten_append, List.length_append]
    have hk : (kidsR l (-1))[n] = (((treesR l).take n).flatten.length : Int) := by
      rw [List.getElem?_eq_getElem hn] at ih; simpa using ih
    have ht : (treesR l)[n] = cutL l (kidsR l (-1))[n] ((kidsR l (-1))[n] + szI l (kidsR l (-1))[n].toNat) := by simp [treesR]
    obtain ⟨g1, g2, g3, g4⟩ := kids_end hb (List.getElem_mem hn)
    have hl : ((treesR l)[n].length : Int) = szI l (kidsR l (-1))[n].toNat := by
      rw [ht, cutL]; simp; omega
    simp only [List.flatten_cons, List.flatten_nil, List.append_nil, Option.some.injEq]
    rw [← hk, Int.natCast_add, hl, ← hk]
/-- a row's first trees and its last ones away -/
theorem flatten_window {L : List (List Nd)} {i j : Nat} (hij : i ≤ j) (hj : j ≤ L.length) :
    (L.flatten.drop (L.take i).flatten.length).take ((L.take j).flatten.length - (L.take i).flatten.length) = ((L.drop i).take (j - i)).flatten := by
  have e1 : L.flatten = (L.take i).flatten ++ (L.drop i).flatten := by rw [← List.flatten_append, List.take_append_drop]
  have e2 : (L.take j).flatten = (L.take i).flatten ++ ((L.drop i).take (j - i)).flatten := by
    rw [← List.flatten_append]
    congr 1
    conv => lhs; rw [show j = i + (j - i) by omega, List.take_add]
  have e3 : (L.drop i).flatten = ((L.drop i).take (j - i)).flatten ++ ((L.drop i).drop (j - i)).flatten := by rw [← List.flatten_append, List.take_append_drop]
  rw [e1, List.drop_left, e2, List.length_append, Nat.add_sub_cancel_left, e3, List.take_left]
theorem alikeN_eq (eq : Nat → Bool) : ∀ f n k, n ≤ k → k < alikeN eq f n → eq k = true
  | 0, n, k, h, h2 => by simp [alikeN] at h2; omega
  | f + 1, n, k, h, h2 => by
    rw [alikeN] at h2
    split at h2
    · rename_i he
      by_cases e : k = n
      · rw [e]; exact he
      · exact alikeN_eq eq f (n + 1) k (by omega) h2
    · omega
theorem alike_take {X Y : List (List Nd)} : X.take (alikeR tellF X Y) = Y.take (alikeR tellF X Y) := by
  have hle := alikeR_le tellF X Y
  refine List.ext_getElem? fun i => ?_
  rw [List.getElem?_take, List.getElem?_take]
  split
  · rename_i hi
    have := alikeN_eq _ _ _ i (Nat.zero_le _) hi
    rw [decide_eq_true_eq, tellF, tellF] at this
    rw [List.getElem?_eq_getElem (show i < X.length by omega), List.getElem?_eq_getElem (show i < Y.length by omega)] at this ⊢
    simpa using this
  · rfl
end Go.Vc
namespace Go.Vc
open Go.Proofs
set_option maxRecDepth 100000 in
theorem rbetween_c (a b : List Nd) (ha : Hlf a) (hb : Hlf b) (hba : isB a = true) (hbb : isB b = true) : PFun Try.prog 27 [encNs a, encNs b] (encE (betweenC a b)) := fun σ => by
  have ha1 := ha.1
  have hb1 := hb.1
  have kx := kids_c a (by omega) (-1)
  have ky := kids_c b (by omega) (-1)
  have px := fun n h => trees_pos hba n h
  have py := fun n h => trees_pos hbb n h
  have ex := fun k (h : k ∈ kidsR a (-1)) => kids_end hba h
  have ey := fun k (h : k ∈ kidsR b (-1)) => kids_end hbb h
  have lx : (treesR a).length = (kidsR a (-1)).length := by rw [treesR, List.length_map]
  have ly : (treesR b).length = (kidsR b (-1)).length := by rw [treesR, List.length_map]
  have gx : ∀ (i : Nat) (h : i < (kidsR a (-1)).length), (treesR a)[i]? = some (cutL a (kidsR a (-1))[i] ((kidsR a (-1))[i] + szI a (kidsR a (-1))[i].toNat)) := fun i h => by simp [treesR, h]
  have gy : ∀ (i : Nat) (h : i < (kidsR b (-1)).length), (treesR b)[i]? = some (cutL b (kidsR b (-1))[i] ((kidsR b (-1))[i] + szI b (kidsR b (-1))[i].toNat)) := fun i h => by simp [treesR, h]
  have fx := treesR_flat hba
  have fy := treesR_flat hbb
  have mx := kidsR_len a (-1)
  have my := kidsR_len b (-1)
  have htk := alike_take (X := treesR a) (Y := treesR b)
  have hle := alikeR_le tellF (treesR a) (treesR b)
  have hle2 := alikeR_le tellL ((treesR a).drop (alikeR tellF (treesR a) (treesR b))) ((treesR b).drop (alikeR tellF (treesR a) (treesR b)))
  obtain ⟨res, hres⟩ : ∃ v, v = encE (betweenC a b) := ⟨_, rfl⟩
  rw [← hres]
  unfold betweenC at hres
  simp only at hres
  generalize treesR a = X at *
  generalize treesR b = Y at *
  generalize kidsR a (-1) = x at *
  generalize kidsR b (-1) = y at *
  have fcut : ∀ (l : List Nd) (p q : Int), Hlf l → Fine (cutL l p q) := fun l p q hl => ⟨by have := hl.1; have := cutL_len (l := l) (a := p) (e := q); omega, fun z hz => by have := hl.2 z (List.mem_of_mem_drop (List.mem_of_mem_take hz)); omega⟩
  refine Contract.of_runs Try.func27 e27 k27 (by simp [c27]) ?_
  refine Runs.mix 13 ?_
  (refine Runs.of_step Orc.nothing 300 ?_; simp -implicitDefEqProofs only [BB, Int.reduceEq, Int.reduceNe, Int.reduceLT, Int.reduceLE, Int.reduceGT, Int.reduceGE, Nat.reduceEqDiff, Nat.reduceAdd, Nat.reduceMul, Nat.reduceLeDiff, Nat.reduceSub, Nat.reduceLT, Nat.reduceBEq, ↓reduceIte, reduceCtorEq, ← decide_not, okind, vpre, vpure, intBin, intPre, strBin, strPre, popTo, argSlots, fldV, fldAV, subCells, idxVV, idxAAV, idxSV, sliceV, sliceSV, boundV, szIs, storeOp, storeS, setRowV, eff, extV, buildV, splice, eqSV, fitsL, eqCells, eqCell, minmaxV, capV, binBV, nilCheckV, bytesV, V.cells, V.stays, Orc.nothing, c27])
  refine effR_new fun id1 σ1 s1 a1 f1 => ?_
  simp -implicitDefEqProofs only [BB, Int.reduceEq, Int.reduceNe, Int.reduceLT, Int.reduceLE, Int.reduceGT, Int.reduceGE, Nat.reduceEqDiff, Nat.reduceAdd, Nat.reduceMul, Nat.reduceLeDiff, Nat.reduceSub, Nat.reduceLT, Nat.reduceBEq, ↓reduceIte, reduceCtorEq, ← decide_not, okind, vpre, vpure, intBin, intPre, strBin, strPre, popTo, argSlots, fldV, fldAV, subCells, idxVV, idxAAV, idxSV, sliceV, sliceSV, boundV, szIs, storeOp, storeS, setRowV, eff, extV, buildV, splice, eqSV, fitsL, eqCells, eqCell, minmaxV, capV, binBV, nilCheckV, bytesV, V.cells, V.stays, a1]
  refine Runs.pcall rfl rfl rfl (kx _) ?_
  (refine Runs.of_step Orc.nothing 300 ?_; simp -implicitDefEqProofs only [BB, Int.reduceEq, Int.reduceNe, Int.reduceLT, Int.reduceLE, Int.reduceGT, Int.reduceGE, Nat.reduceEqDiff, Nat.reduceAdd, Nat.reduceMul, Nat.reduceLeDiff, Nat.reduceSub, Nat.reduceLT, Nat.reduceBEq, ↓reduceIte, reduceCtorEq, ← decide_not, okind, vpre, vpure, intBin, intPre, strBin, strPre, popTo, argSlots, fldV, fldAV, subCells, idxVV, idxAAV, idxSV, sliceV, sliceSV, boundV, szIs, storeOp, storeS, setRowV, eff, extV, buildV, splice, eqSV, fitsL, eqCells, eqCell, minmaxV, capV, binBV, nilCheckV, bytesV, V.cells, V.stays, Orc.nothing])
  refine Runs.pcall rfl rfl rfl (ky _) ?_
  (refine Runs.of_step Orc.nothing 300 ?_; simp -implicitDefEqProofs only [BB, Int.reduceEq, Int.reduceNe, Int.reduceLT, Int.reduceLE, Int.reduceGT, Int.reduceGE, Nat.reduceEqDiff, Nat.reduceAdd, Nat.reduceMul, Nat.reduceLeDiff, Nat.reduceSub, Nat.reduceLT, Nat.reduceBEq, ↓reduceIte, reduceCtorEq, ← decide_not, okind, vpre, vpure, intBin, intPre, strBin, strPre, popTo, argSlots, fldV, fldAV, subCells, idxVV, idxAAV, idxSV, sliceV, sliceSV, boundV, szIs, storeOp, storeS, setRowV, eff, extV, buildV, splice, eqSV, fitsL, eqCells, eqCell, minmaxV, capV, binBV, nilCheckV, bytesV, V.cells, V.stays, Orc.nothing])
  obtain ⟨N, hN⟩ : ∃ N, N = alikeR tellF X Y := ⟨_, rfl⟩
  rw [← hN] at hle hle2 hres htk
  rw [alikeR] at hN
  refine Runs.loopTo (fun st => st.σ = σ1 ∧ st.s 0 = encNs a ∧ st.s 1 = encNs b ∧ st.s 4 = .ptr id1 0 0 ∧ st.s 5 = encI x ∧ st.s 6 = encI y ∧ st.s 7 = vI N ∧ st.s 8 = vI ((X.take N).flatten.length))
    (fun m st => ∃ n : Nat, n ≤ min X.length Y.length ∧ m = min X.length Y.length - n ∧ N = alikeN (fun n => decide (tellF X n = tellF Y n)) m n ∧ st.σ = σ1 ∧ st.s 0 = encNs a ∧ st.s 1 = encNs b ∧ st.s 4 = .ptr id1 0 0 ∧
    st.s 5 = encI x ∧ st.s 6 = encI y ∧ st.s 7 = vI n ∧ st.s 8 = vI ((X.take n).flatten.length)) (min X.length Y.length) ?_ ?_ ?_
  · exact ⟨0, by omega, by omega, hN, rfl, rfl, rfl, rfl, rfl, rfl, rfl, rfl⟩
  · rintro m ⟨s, σ'⟩ ⟨n, hn, hm, heq, hσ, h0, h1, h4, h5, h6, h7, h8⟩
    simp only at hσ h0 h1 h4 h5 h6 h7 h8
    subst hσ
    refine Runs.mix 13 ?_
    have stop : m = 0 ∨ decide (tellF X n = tellF Y n) = false → N = n := fun h => by
      rcases h with h | h
      · rw [heq, h, alikeN]
      · rw [heq]
        cases m with
        | zero => rfl
        | succ m => rw [alikeN]; simp only [h, Bool.false_eq_true, if_false]
    by_cases c1 : n < x.length
    · have d1 : decide ((n : Int) < x.length) = true := decide_eq_true (by omega)
      by_cases c2 : n < y.length
      · have d2 : decide ((n : Int) < y.length) = true := decide_eq_true (by omega)
        obtain ⟨x1, x2, x3, x4⟩ := ex _ (List.getElem_mem c1)
        obtain ⟨y1, y2, y3, y4⟩ := ey _ (List.getElem_mem c2)
        have ix := fun σ => idxAV_encNsI (σ := σ) x1 x2
        have iy := fun σ => idxAV_encNsI (σ := σ) y1 y2
        have sx := szI_eq x2
        have sy := szI_eq y2
        have slx := fun σ => sliceV_encNs (σ := σ) (l := a) (s := x[n]) (e := x[n] + szI a x[n].toNat) x1 (by omega) x3
        have sly := fun σ => sliceV_encNs (σ := σ) (l := b) (s := y[n]) (e := y[n] + szI b y[n].toNat) y1 (by omega) y3
        have cx : (a.drop x[n].toNat).take ((x[n] + szI a x[n].toNat).toNat - x[n].toNat) = cutL a x[n] (x[n] + szI a x[n].toNat) := rfl
        have cy : (b.drop y[n].toNat).take ((y[n] + szI b y[n].toNat).toNat - y[n].toNat) = cutL b y[n] (y[n] + szI b y[n].toNat) := rfl
        rw [cx] at slx
        rw [cy] at sly
        have tx : tellF X n = cutL a x[n] (x[n] + szI a x[n].toNat) := by rw [tellF, gx n c1]; rfl
        have ty : tellF Y n = cutL b y[n] (y[n] + szI b y[n].toNat) := by rw [tellF, gy n c2]; rfl
        have p1 := px n (by omega)
        have p2 := px (n + 1) (by omega)
        rw [List.getElem?_append_left c1, List.getElem?_eq_getElem c1] at p1
        have p1 : x[n] = ((X.take n).flatten.length : Int) := by simpa using p1
        have hnx : n < X.length := by omega
        have p3 : ((X.take (n + 1)).flatten.length : Int) = x[n] + szI a x[n].toNat := by
          rw [List.take_succ_eq_append_getElem hnx, List.flatten_append, List.length_append]
          have hX : X[n] = cutL a x[n] (x[n] + szI a x[n].toNat) := by
            have := gx n c1
            rw [List.getElem?_eq_getElem hnx] at this
            simpa using this
          have hl : ((X[n]).length : Int) = szI a x[n].toNat := by rw [hX, cutL]; simp; omega
          simp only [List.flatten_cons, List.flatten_nil, List.append_nil]
          rw [Int.natCast_add, hl, ← p1]
        rw [sx] at slx p3 x3
        rw [sy] at sly y3
        rw [sx] at tx
        rw [sy] at ty
        (refine Runs.of_step Orc.nothing 300 ?_; simp -implicitDefEqProofs only [BB, Int.reduceEq, Int.reduceNe, Int.reduceLT, Int.reduceLE, Int.reduceGT, Int.reduceGE, Nat.reduceEqDiff, Nat.reduceAdd, Nat.reduceMul, Nat.reduceLeDiff, Nat.reduceSub, Nat.reduceLT, Nat.reduceBEq, ↓reduceIte, reduceCtorEq, ← decide_not, okind, vpre, vpure, intBin, intPre, strBin, strPre, popTo, argSlots, fldV, fldAV, subCells, idxVV, idxAAV, idxSV, sliceSV, boundV, szIs, storeOp, storeS, setRowV, eff, extV, buildV, splice, eqSV, fitsL, eqCells, eqCell, minmaxV, capV, binBV, nilCheckV, bytesV, V.cells, V.stays, Orc.nothing, h0, h1, h4, h5, h6, h7, h8, lenV_encI, d1, d2, idxAV_encI c1, idxAV_encI c2, ix, iy, Nd.cells, slx, sly])
        refine ⟨inR_i64 (by omega) (by omega), inR_i64 (by omega) (by omega), ?_⟩
        refine Go.pcallG rfl rfl rfl (same5_c _ _ (fcut a _ _ ha) (fcut b _ _ hb)) ?_
        rw [← tx, ← ty]
        cases he : decide (tellF X n = tellF Y n)
        · have hNn := stop (.inr he)
          (refine Go.of_step Orc.nothing 300 _ _ ?_; simp -implicitDefEqProofs only [BB, Int.reduceEq, Int.reduceNe, Int.reduceLT, Int.reduceLE, Int.reduceGT, Int.reduceGE, Nat.reduceEqDiff, Nat.reduceAdd, Nat.reduceMul, Nat.reduceLeDiff, Nat.reduceSub, Nat.reduceLT, Nat.reduceBEq, ↓reduceIte, reduceCtorEq, ← decide_not, okind, vpre, vpure, intBin, intPre, strBin, strPre, popTo, argSlots, fldV, fldAV, subCells, idxVV, idxAAV, idxSV, sliceV, sliceSV, boundV, szIs, storeOp, storeS, setRowV, eff, extV, buildV, splice, eqSV, fitsL, eqCells, eqCell, minmaxV, capV, binBV, nilCheckV, bytesV, V.cells, V.stays, Orc.nothing, h0, h1, h4, h5, h6, h7, h8])
          rw [hNn]
          exact ⟨rfl, rfl⟩
        · obtain ⟨k, rfl⟩ : ∃ k, m = k + 1 := ⟨m - 1, by omega⟩
          rw [alikeN] at heq
          simp only [he, if_true] at heq
          (refine Go.of_step Orc.nothing 300 _ _ ?_; simp -implicitDefEqProofs only [BB, Int.reduceEq, Int.reduceNe, Int.reduceLT, Int.reduceLE, Int.reduceGT, Int.reduceGE, Nat.reduceEqDiff, Nat.reduceAdd, Nat.reduceMul, Nat.reduceLeDiff, Nat.reduceSub, Nat.reduceLT, Nat.reduceBEq, ↓reduceIte, reduceCtorEq, ← decide_not, okind, vpre, vpure, intBin, intPre, strBin, strPre, popTo, argSlots, fldV, fldAV, subCells, idxVV, idxAAV, idxSV, sliceV, sliceSV, boundV, szIs, storeOp, storeS, setRowV, eff, extV, buildV, splice, eqSV, fitsL, eqCells, eqCell, minmaxV, capV, binBV, nilCheckV, bytesV, V.cells, V.stays, Orc.nothing, h0, h1, h4, h5, h6, h7, h8, idxAV_encI c1, ix, Nd.cells])
          exact ⟨inR_i64 (by omega) (by omega), inR_i64 (by omega) (by omega), k, by omega, n + 1, by omega, by omega, heq, by simp, by rw [p3]⟩
      · have d2 : decide ((n : Int) < y.length) = false := decide_eq_false (by omega)
        have hNn := stop (.inl (by omega))
        (refine Runs.of_step Orc.nothing 300 ?_; simp -implicitDefEqProofs only [BB, Int.reduceEq, Int.reduceNe, Int.reduceLT, Int.reduceLE, Int.reduceGT, Int.reduceGE, Nat.reduceEqDiff, Nat.reduceAdd, Nat.reduceMul, Nat.reduceLeDiff, Nat.reduceSub, Nat.reduceLT, Nat.reduceBEq, ↓reduceIte, reduceCtorEq, ← decide_not, okind, vpre, vpure, intBin, intPre, strBin, strPre, popTo, argSlots, fldV, fldAV, subCells, idxVV, idxAAV, idxSV, sliceV, sliceSV, boundV, szIs, storeOp, storeS, setRowV, eff, extV, buildV, splice, eqSV, fitsL, eqCells, eqCell, minmaxV, capV, binBV, nilCheckV, bytesV, V.cells, V.stays, Orc.nothing, h0, h1, h4, h5, h6, h7, h8, lenV_encI, d1, d2])
        rw [hNn]
        exact ⟨rfl, rfl⟩
    · have d1 : decide ((n : Int) < x.length) = false := decide_eq_false (by omega)
      have hNn := stop (.inl (by omega))
      (refine Runs.of_step Orc.nothing 300 ?_; simp -implicitDefEqProofs only [BB, Int.reduceEq, Int.reduceNe, Int.reduceLT, Int.reduceLE, Int.reduceGT, Int.reduceGE, Nat.reduceEqDiff, Nat.reduceAdd, Nat.reduceMul, Nat.reduceLeDiff, Nat.reduceSub, Nat.reduceLT, Nat.reduceBEq, ↓reduceIte, reduceCtorEq, ← decide_not, okind, vpre, vpure, intBin, intPre, strBin, strPre, popTo, argSlots, fldV, fldAV, subCells, idxVV, idxAAV, idxSV, sliceV, sliceSV, boundV, szIs, storeOp, storeS, setRowV, eff, extV, buildV, splice, eqSV, fitsL, eqCells, eqCell, minmaxV, capV, binBV, nilCheckV, bytesV, V.cells, V.stays, Orc.nothing, h0, h1, h4, h5, h6, h7, h8, lenV_encI, d1])
      rw [hNn]
      exact ⟨rfl, rfl⟩
  · rintro ⟨s, σ'⟩ ⟨hσ, h0, h1, h4, h5, h6, h7, h8⟩
    simp only at hσ h0 h1 h4 h5 h6 h7 h8
    subst hσ
    refine Runs.mix 13 ?_
    (refine Runs.of_step Orc.nothing 300 ?_; simp -implicitDefEqProofs only [BB, Int.reduceEq, Int.reduceNe, Int.reduceLT, Int.reduceLE, Int.reduceGT, Int.reduceGE, Nat.reduceEqDiff, Nat.reduceAdd, Nat.reduceMul, Nat.reduceLeDiff, Nat.reduceSub, Nat.reduceLT, Nat.reduceBEq, ↓reduceIte, reduceCtorEq, ← decide_not, okind, vpre, vpure, intBin, intPre, strBin, strPre, popTo, argSlots, fldV, fldAV, subCells, idxVV, idxAAV, idxSV, sliceV, sliceSV, boundV, szIs, storeOp, storeS, setRowV, eff, extV, buildV, splice, eqSV, fitsL, eqCells, eqCell, minmaxV, capV, binBV, nilCheckV, bytesV, V.cells, V.stays, Orc.nothing, h0, h1, h4, h5, h6, h7, h8, lenV_encNs])
    obtain ⟨M, hM⟩ : ∃ M, M = alikeR tellL (X.drop N) (Y.drop N) := ⟨_, rfl⟩
    rw [← hM] at hle2 hres
    rw [alikeR] at hM
    simp only [List.length_drop] at hle2 hM hres
    have hend0 : ((Y.take (Y.length - 0)).flatten.length : Int) = b.length := by rw [Nat.sub_zero, List.take_length, fy]
    refine Runs.loopTo (fun st => st.σ = σ' ∧ st.s 0 = encNs a ∧ st.s 1 = encNs b ∧ st.s 4 = .ptr id1 0 0 ∧ st.s 5 = encI x ∧ st.s 6 = encI y ∧ st.s 7 = vI N ∧ st.s 8 = vI ((X.take N).flatten.length) ∧ st.s 9 = vI M ∧ st.s 10 = vI ((Y.take (Y.length - M)).flatten.length))
      (fun m st => ∃ n : Nat, n ≤ min (X.length - N) (Y.length - N) ∧ m = min (X.length - N) (Y.length - N) - n ∧ M = alikeN (fun n => decide (tellL (X.drop N) n = tellL (Y.drop N) n)) m n ∧ st.σ = σ' ∧ st.s 0 = encNs a ∧ st.s 1 = encNs b ∧ st.s 4 = .ptr id1 0 0 ∧
      st.s 5 = encI x ∧ st.s 6 = encI y ∧ st.s 7 = vI N ∧ st.s 8 = vI ((X.take N).flatten.length) ∧ st.s 9 = vI n ∧ st.s 10 = vI ((Y.take (Y.length - n)).flatten.length)) (min (X.length - N) (Y.length - N)) ?_ ?_ ?_
    · exact ⟨0, by omega, by omega, hM, rfl, h0, h1, h4, h5, h6, h7, h8, rfl, by rw [hend0]; rfl⟩
    · rintro m ⟨s, σ2⟩ ⟨n, hn, hm, heq, hσ, h0, h1, h4, h5, h6, h7, h8, h9, h10⟩
      simp only at hσ h0 h1 h4 h5 h6 h7 h8 h9 h10
      subst hσ
      refine Runs.mix 13 ?_
      have stop : m = 0 ∨ decide (tellL (X.drop N) n = tellL (Y.drop N) n) = false → M = n := fun h => by
        rcases h with h | h
        · rw [heq, h, alikeN]
        · rw [heq]
          cases m with
          | zero => rfl
          | succ m => rw [alikeN]; simp only [h, Bool.false_eq_true, if_false]
      by_cases c1 : N + n < x.length
      · have d1 : decide ((N : Int) + n < x.length) = true := decide_eq_true (by omega)
        by_cases c2 : N + n < y.length
        · have d2 : decide ((N : Int) + n < y.length) = true := decide_eq_true (by omega)
          have jx : x.length - 1 - n < x.length := by omega
          have jy : y.length - 1 - n < y.length := by omega
          have ejx : (x.length : Int) - 1 - n = ((x.length - 1 - n : Nat) : Int) := by omega
          have ejy : (y.length : Int) - 1 - n = ((y.length - 1 - n : Nat) : Int) := by omega
          obtain ⟨x1, x2, x3, x4⟩ := ex _ (List.getElem_mem jx)
          obtain ⟨y1, y2, y3, y4⟩ := ey _ (List.getElem_mem jy)
          have tx : tellL (X.drop N) n = cutL a x[x.length - 1 - n] (x[x.length - 1 - n] + szI a x[x.length - 1 - n].toNat) := by
            rw [tellL, List.getElem?_drop, List.length_drop, show N + (X.length - N - 1 - n) = x.length - 1 - n by omega, gx _ jx]; rfl
          have ty : tellL (Y.drop N) n = cutL b y[y.length - 1 - n] (y[y.length - 1 - n] + szI b y[y.length - 1 - n].toNat) := by
            rw [tellL, List.getElem?_drop, List.length_drop, show N + (Y.length - N - 1 - n) = y.length - 1 - n by omega, gy _ jy]; rfl
          have p1 := py (y.length - 1 - n) (by omega)
          rw [List.getElem?_append_left jy, List.getElem?_eq_getElem jy] at p1
          have p1 : y[y.length - 1 - n] = ((Y.take (Y.length - (n + 1))).flatten.length : Int) := by
            rw [show Y.length - (n + 1) = y.length - 1 - n by omega]; simpa using p1
          have hxi := fun σ => idxAV_encI (σ := σ) jx
          have hyi := fun σ => idxAV_encI (σ := σ) jy
          generalize x[x.length - 1 - n] = u at *
          generalize y[y.length - 1 - n] = v at *
          have ix := fun σ => idxAV_encNsI (σ := σ) x1 x2
          have iy := fun σ => idxAV_encNsI (σ := σ) y1 y2
          have sx := szI_eq x2
          have sy := szI_eq y2
          have slx := fun σ => sliceV_encNs (σ := σ) (l := a) (s := u) (e := u + szI a u.toNat) x1 (by omega) x3
          have sly := fun σ => sliceV_encNs (σ := σ) (l := b) (s := v) (e := v + szI b v.toNat) y1 (by omega) y3
          have cx : (a.drop u.toNat).take ((u + szI a u.toNat).toNat - u.toNat) = cutL a u (u + szI a u.toNat) := rfl
          have cy : (b.drop v.toNat).take ((v + szI b v.toNat).toNat - v.toNat) = cutL b v (v + szI b v.toNat) := rfl
          rw [cx] at slx
          rw [cy] at sly
          rw [sx] at slx x3 tx
          rw [sy] at sly y3 ty
          (refine Runs.of_step Orc.nothing 300 ?_; simp -implicitDefEqProofs only [BB, Int.reduceEq, Int.reduceNe, Int.reduceLT, Int.reduceLE, Int.reduceGT, Int.reduceGE, Nat.reduceEqDiff, Nat.reduceAdd, Nat.reduceMul, Nat.reduceLeDiff, Nat.reduceSub, Nat.reduceLT, Nat.reduceBEq, ↓reduceIte, reduceCtorEq, ← decide_not, okind, vpre, vpure, intBin, intPre, strBin, strPre, popTo, argSlots, fldV, fldAV, subCells, idxVV, idxAAV, idxSV, sliceSV, boundV, szIs, storeOp, storeS, setRowV, eff, extV, buildV, splice, eqSV, fitsL, eqCells, eqCell, minmaxV, capV, binBV, nilCheckV, bytesV, V.cells, V.stays, Orc.nothing, h0, h1, h4, h5, h6, h7, h8, h9, h10, lenV_encI, d1, d2, ejx, ejy, hxi, hyi, ix, iy, Nd.cells, slx, sly])
          refine ⟨inR_i64 (by omega) (by omega), inR_i64 (by omega) (by omega), inR_i64 (by omega) (by omega), inR_i64 (by omega) (by omega), inR_i64 (by omega) (by omega), inR_i64 (by omega) (by omega), inR_i64 (by omega) (by omega), inR_i64 (by omega) (by omega), ?_⟩
          refine Go.pcallG rfl rfl rfl (same5_c _ _ (fcut a _ _ ha) (fcut b _ _ hb)) ?_
          rw [← tx, ← ty]
          cases he : decide (tellL (X.drop N) n = tellL (Y.drop N) n)
          · have hNn := stop (.inr he)
            (refine Go.of_step Orc.nothing 300 _ _ ?_; simp -implicitDefEqProofs only [BB, Int.reduceEq, Int.reduceNe, Int.reduceLT, Int.reduceLE, Int.reduceGT, Int.reduceGE, Nat.reduceEqDiff, Nat.reduceAdd, Nat.reduceMul, Nat.reduceLeDiff, Nat.reduceSub, Nat.reduceLT, Nat.reduceBEq, ↓reduceIte, reduceCtorEq, ← decide_not, okind, vpre, vpure, intBin, intPre, strBin, strPre, popTo, argSlots, fldV, fldAV, subCells, idxVV, idxAAV, idxSV, sliceV, sliceSV, boundV, szIs, storeOp, storeS, setRowV, eff, extV, buildV, splice, eqSV, fitsL, eqCells, eqCell, minmaxV, capV, binBV, nilCheckV, bytesV, V.cells, V.stays, Orc.nothing, h0, h1, h4, h5, h6, h7, h8, h9, h10])
            rw [hNn]
            exact ⟨rfl, rfl⟩
          · obtain ⟨k, rfl⟩ : ∃ k, m = k + 1 := ⟨m - 1, by omega⟩
            rw [alikeN] at heq
            simp only [he, if_true] at heq
            (refine Go.of_step Orc.nothing 300 _ _ ?_; simp -implicitDefEqProofs only [BB, Int.reduceEq, Int.reduceNe, Int.reduceLT, Int.reduceLE, Int.reduceGT, Int.reduceGE, Nat.reduceEqDiff, Nat.reduceAdd, Nat.reduceMul, Nat.reduceLeDiff, Nat.reduceSub, Nat.reduceLT, Nat.reduceBEq, ↓reduceIte, reduceCtorEq, ← decide_not, okind, vpre, vpure, intBin, intPre, strBin, strPre, popTo, argSlots, fldV, fldAV, subCells, idxVV, idxAAV, idxSV, sliceV, sliceSV, boundV, szIs, storeOp, storeS, setRowV, eff, extV, buildV, splice, eqSV, fitsL, eqCells, eqCell, minmaxV, capV, binBV, nilCheckV, bytesV, V.cells, V.stays, Orc.nothing, h0, h1, h4, h5, h6, h7, h8, h9, h10])
            exact ⟨inR_i64 (by omega) (by omega), k, by omega, n + 1, by omega, by omega, heq, by simp, by rw [p1]⟩
        · have d2 : decide ((N : Int) + n < y.length) = false := decide_eq_false (by omega)
          have hNn := stop (.inl (by omega))
          (refine Runs.of_step Orc.nothing 300 ?_; simp -implicitDefEqProofs only [BB, Int.reduceEq, Int.reduceNe, Int.reduceLT, Int.reduceLE, Int.reduceGT, Int.reduceGE, Nat.reduceEqDiff, Nat.reduceAdd, Nat.reduceMul, Nat.reduceLeDiff, Nat.reduceSub, Nat.reduceLT, Nat.reduceBEq, ↓reduceIte, reduceCtorEq, ← decide_not, okind, vpre, vpure, intBin, intPre, strBin, strPre, popTo, argSlots, fldV, fldAV, subCells, idxVV, idxAAV, idxSV, sliceV, sliceSV, boundV, szIs, storeOp, storeS, setRowV, eff, extV, buildV, splice, eqSV, fitsL, eqCells, eqCell, minmaxV, capV, binBV, nilCheckV, bytesV, V.cells, V.stays, Orc.nothing, h0, h1, h4, h5, h6, h7, h8, h9, h10, lenV_encI, d1, d2])
          rw [hNn]
          exact ⟨inR_i64 (by omega) (by omega), inR_i64 (by omega) (by omega), rfl, rfl⟩
      · have d1 : decide ((N : Int) + n < x.length) = false := decide_eq_false (by omega)
        have hNn := stop (.inl (by omega))
        (refine Runs.of_step Orc.nothing 300 ?_; simp -implicitDefEqProofs only [BB, Int.reduceEq, Int.reduceNe, Int.reduceLT, Int.reduceLE, Int.reduceGT, Int.reduceGE, Nat.reduceEqDiff, Nat.reduceAdd, Nat.reduceMul, Nat.reduceLeDiff, Nat.reduceSub, Nat.reduceLT, Nat.reduceBEq, ↓reduceIte, reduceCtorEq, ← decide_not, okind, vpre, vpure, intBin, intPre, strBin, strPre, popTo, argSlots, fldV, fldAV, subCells, idxVV, idxAAV, idxSV, sliceV, sliceSV, boundV, szIs, storeOp, storeS, setRowV, eff, extV, buildV, splice, eqSV, fitsL, eqCells, eqCell, minmaxV, capV, binBV, nilCheckV, bytesV, V.cells, V.stays, Orc.nothing, h0, h1, h4, h5, h6, h7, h8, h9, h10, lenV_encI, d1])
        rw [hNn]
        exact ⟨inR_i64 (by omega) (by omega), rfl, rfl⟩
    · rintro ⟨s, σ2⟩ ⟨hσ, h0, h1, h4, h5, h6, h7, h8, h9, h10⟩
      simp only at hσ h0 h1 h4 h5 h6 h7 h8 h9 h10
      subst hσ
      refine Runs.mix 13 ?_
      have hat : (X.take N).flatten.length = (Y.take N).flatten.length := by rw [htk]
      have hwin := flatten_window (L := Y) (i := N) (j := Y.length - M) (by omega) (by omega)
      have hmon : (Y.take N).flatten.length ≤ (Y.take (Y.length - M)).flatten.length := by
        have := flatten_take_le (L := Y.take (Y.length - M)) N
        rw [List.take_take, Nat.min_eq_left (by omega)] at this
        exact this
      have hlen := flatten_take_le (L := Y) (Y.length - M)
      rw [fy] at hwin hlen
      have slb := fun σ => sliceV_encNs (σ := σ) (l := b) (s := ((X.take N).flatten.length : Int)) (e := ((Y.take (Y.length - M)).flatten.length : Int)) (by omega) (by omega) (by omega)
      simp only [Int.toNat_natCast] at slb
      rw [hat] at slb
      rw [hwin, show Y.length - M - N = Y.length - N - M by omega, ← hat] at slb
      (refine Runs.of_step Orc.nothing 300 ?_; simp -implicitDefEqProofs only [BB, Int.reduceEq, Int.reduceNe, Int.reduceLT, Int.reduceLE, Int.reduceGT, Int.reduceGE, Nat.reduceEqDiff, Nat.reduceAdd, Nat.reduceMul, Nat.reduceLeDiff, Nat.reduceSub, Nat.reduceLT, Nat.reduceBEq, ↓reduceIte, reduceCtorEq, ← decide_not, okind, vpre, vpure, intBin, intPre, strBin, strPre, popTo, argSlots, fldV, fldAV, subCells, idxVV, idxAAV, idxSV, sliceSV, boundV, szIs, storeOp, storeS, setRowV, eff, extV, buildV, splice, eqSV, fitsL, eqCells, eqCell, minmaxV, capV, binBV, nilCheckV, bytesV, V.cells, V.stays, Orc.nothing, h0, h1, h4, h5, h6, h7, h8, h9, h10, lenV_encI, slb])
      refine ⟨inR_i64 (by omega) (by omega), inR_i64 (by omega) (by omega), ?_⟩
      have hsub : Sml ((Y.drop N).take (Y.length - N - M)).flatten := by
        refine ⟨?_, fun z hz => ?_⟩
        · have h1 := flatten_take_le (L := Y.drop N) (Y.length - N - M)
          have h2 := flatten_drop_le (L := Y) N
          rw [fy] at h2
          omega
        · refine hb.2 z ?_
          rw [← fy]
          obtain ⟨t, ht, hz⟩ := List.mem_flatten.1 hz
          exact List.mem_flatten.2 ⟨t, List.mem_of_mem_drop (List.mem_of_mem_take ht), hz⟩
      refine Runs.pcall rfl rfl rfl (own8_c _ hsub _) ?_
      have hsb : ∀ (p m : Int) (s : List Nd), buildV [.int .i64 0, .int .i64 0, .int .i64 0, .int .i64 0, .nils, .int .i64 0, .int .i64 0, .int .i64 0, .int .i64 0, .int .i64 0, .int .i64 0, .int .i64 0, .int .i64 0, .int .i64 0, .int .i64 0, .int .i64 0, .int .i64 0]
          [(0, 1, .int .i64 1), (1, 1, .int .i64 (-1)), (2, 1, .int .i64 p), (3, 1, .int .i64 m), (4, 1, encNs s)] = some [.int .i64 1, .int .i64 (-1), .int .i64 p, .int .i64 m, encNs s, .int .i64 0, .int .i64 0, .int .i64 0, .int .i64 0, .int .i64 0, .int .i64 0, .int .i64 0, .int .i64 0, .int .i64 0, .int .i64 0, .int .i64 0, .int .i64 0] := fun _ _ _ => rfl
      have hsb2 : ∀ (p m : Int) (s : List Nd), buildV [.int .i64 0, .int .i64 0, .int .i64 0, .int .i64 0, .nils, .int .i64 0, .int .i64 0, .int .i64 0, .int .i64 0, .int .i64 0, .int .i64 0, .int .i64 0, .int .i64 0, .int .i64 0, .int .i64 0, .int .i64 0, .int .i64 0]
          [(0, 1, .int .i64 1), (1, 1, .int .i64 (-1)), (2, 1, vI p), (3, 1, .int .i64 m), (4, 1, encNs s)] = some [.int .i64 1, .int .i64 (-1), .int .i64 p, .int .i64 m, encNs s, .int .i64 0, .int .i64 0, .int .i64 0, .int .i64 0, .int .i64 0, .int .i64 0, .int .i64 0, .int .i64 0, .int .i64 0, .int .i64 0, .int .i64 0, .int .i64 0] := fun _ _ _ => rfl
      (refine Runs.of_step Orc.nothing 300 ?_; simp -implicitDefEqProofs only [BB, Int.reduceEq, Int.reduceNe, Int.reduceLT, Int.reduceLE, Int.reduceGT, Int.reduceGE, Nat.reduceEqDiff, Nat.reduceAdd, Nat.reduceMul, Nat.reduceLeDiff, Nat.reduceSub, Nat.reduceLT, Nat.reduceBEq, ↓reduceIte, reduceCtorEq, ← decide_not, okind, vpre, vpure, intBin, intPre, strBin, strPre, popTo, argSlots, fldV, fldAV, subCells, idxVV, idxAAV, idxSV, sliceV, sliceSV, boundV, szIs, storeOp, storeS, setRowV, eff, extV, splice, eqSV, fitsL, eqCells, eqCell, minmaxV, capV, binBV, nilCheckV, bytesV, Orc.nothing, h4, a1, encNs_cells, encNs_stays, V.cells_agg, V.cells_int, V.cells_nils, V.cells_own, V.cells_sl, V.cells_str, V.cells_bool, V.cells_fn, V.cells_ptr, V.cells_rp, V.stays_agg, V.stays_int, V.stays_nils, V.stays_own, V.stays_sl, V.stays_str, V.stays_bool, V.stays_fn, V.stays_ptr, V.stays_rp, hsb, hsb2])
      refine RetV.pure (s1.updK f1) ?_
      rw [hres]
      have e1 : (x.length : Int) - N - M = ((X.length - N : Nat) : Int) - M := by omega
      rw [e1]
      rfl
end Go.Vc
namespace Go.Vc
open Go.Proofs
theorem betweenC_fine {a b : List Nd} (hb : Hlf b) (hbb : isB b = true) : Fine (betweenC a b).sub := by
  unfold betweenC
  simp only
  refine ⟨?_, fun z hz => ?_⟩
  · have h1 := flatten_take_le (L := (treesR b).drop (alikeR tellF (treesR a) (treesR b))) (((treesR b).drop (alikeR tellF (treesR a) (treesR b))).length - alikeR tellL ((treesR a).drop (alikeR tellF (treesR a) (treesR b))) ((treesR b).drop (alikeR tellF (treesR a) (treesR b))))
    have h2 := flatten_drop_le (L := treesR b) (alikeR tellF (treesR a) (treesR b))
    rw [treesR_flat hbb] at h2
    have := hb.1
    omega
  · obtain ⟨t, ht, hz⟩ := List.mem_flatten.1 hz
    have := hb.2 z ((treesR_mem (List.mem_of_mem_drop (List.mem_of_mem_take ht))).2 z hz)
    omega
set_option maxRecDepth 100000 in
theorem editTells_c (a b : List Nd) (x y : Ed) (ha : a.length ≤ 1000000000000 ∧ ∀ z ∈ a, z.words.length ≤ 200000000000000) (hb : b.length ≤ 1000000000000 ∧ ∀ z ∈ b, z.words.length ≤ 200000000000000)
    (hx : x.sub.length ≤ 1000000000000 ∧ ∀ z ∈ x.sub, z.words.length ≤ 200000000000000) (hy : y.sub.length ≤ 1000000000000 ∧ ∀ z ∈ y.sub, z.words.length ≤ 200000000000000) :
    PFun Try.prog 6 [encNs a, encNs b, encE x, encE y] (.bool true) := fun σ => by
  obtain ⟨xs, hxs⟩ : ∃ v, v = encE x := ⟨_, rfl⟩
  have hxc : xs.cells.length = 17 := by rw [hxs]; rfl
  have hxst : xs.stays = true := by rw [hxs]; rfl
  have hxcl : V.agg xs.cells = xs := by rw [hxs]; rfl
  have hx4 : xs.cells[4]? = some (encNs x.sub) := by rw [hxs]; rfl
  obtain ⟨ys, hys⟩ : ∃ v, v = encE y := ⟨_, rfl⟩
  have hyc : ys.cells.length = 17 := by rw [hys]; rfl
  have hyst : ys.stays = true := by rw [hys]; rfl
  have hycl : V.agg ys.cells = ys := by rw [hys]; rfl
  have hy4 : ys.cells[4]? = some (encNs y.sub) := by rw [hys]; rfl
  rw [← hxs, ← hys]
  refine Contract.of_runs Try.func6 e6 k6 (by simp [c6]) ?_
  refine Runs.mix 11 ?_
  (refine Runs.of_step Orc.nothing 300 ?_; simp -implicitDefEqProofs only [BB, Int.reduceEq, Int.reduceNe, Int.reduceLT, Int.reduceLE, Int.reduceGT, Int.reduceGE, Nat.reduceEqDiff, Nat.reduceAdd, Nat.reduceMul, Nat.reduceLeDiff, Nat.reduceSub, Nat.reduceLT, Nat.reduceBEq, ↓reduceIte, reduceCtorEq, ← decide_not, okind, vpre, vpure, intBin, intPre, strBin, strPre, popTo, argSlots, fldV, fldAV, subCells, idxVV, idxAAV, idxSV, sliceV, sliceSV, boundV, szIs, storeOp, storeS, setRowV, eff, extV, buildV, splice, eqSV, fitsL, eqCells, eqCell, minmaxV, capV, binBV, nilCheckV, bytesV, Orc.nothing, c6, V.cells_agg, V.cells_int, V.cells_nils, V.cells_own, V.cells_sl, V.cells_str, V.cells_bool, V.cells_fn, V.cells_ptr, V.cells_rp, V.stays_agg, V.stays_int, V.stays_nils, V.stays_own, V.stays_sl, V.stays_str, V.stays_bool, V.stays_fn, V.stays_ptr, V.stays_rp, hxc, hxst])
  refine effR_new fun id1 σ1 s1 a1 f1 => ?_
  simp -implicitDefEqProofs only [BB, Int.reduceEq, Int.reduceNe, Int.reduceLT, Int.reduceLE, Int.reduceGT, Int.reduceGE, Nat.reduceEqDiff, Nat.reduceAdd, Nat.reduceMul, Nat.reduceLeDiff, Nat.reduceSub, Nat.reduceLT, Nat.reduceBEq, ↓reduceIte, reduceCtorEq, ← decide_not, okind, vpre, vpure, intBin, intPre, strBin, strPre, popTo, argSlots, fldV, fldAV, subCells, idxVV, idxAAV, idxSV, sliceV, sliceSV, boundV, szIs, storeOp, storeS, setRowV, eff, extV, buildV, splice, eqSV, fitsL, eqCells, eqCell, minmaxV, capV, binBV, nilCheckV, bytesV, V.cells_agg, V.cells_int, V.cells_nils, V.cells_own, V.cells_sl, V.cells_str, V.cells_bool, V.cells_fn, V.cells_ptr, V.cells_rp, V.stays_agg, V.stays_int, V.stays_nils, V.stays_own, V.stays_sl, V.stays_str, V.stays_bool, V.stays_fn, V.stays_ptr, V.stays_rp, hyc, hyst]
  refine effR_new fun id2 σ2 s2 a2 f2 => ?_
  have n12 := ne_new a1 f2
  have b1 := s2 _ _ a1
  have hs := s1.trans s2
  have big : Runs Try.prog 71 [] ⟨fun _ => .undef, σ2⟩ (fun _ => True) → True := fun _ => trivial
  simp -implicitDefEqProofs only [BB, Int.reduceEq, Int.reduceNe, Int.reduceLT, Int.reduceLE, Int.reduceGT, Int.reduceGE, Nat.reduceEqDiff, Nat.reduceAdd, Nat.reduceMul, Nat.reduceLeDiff, Nat.reduceSub, Nat.reduceLT, Nat.reduceBEq, ↓reduceIte, reduceCtorEq, ← decide_not, okind, vpre, vpure, intBin, intPre, strBin, strPre, popTo, argSlots, fldV, fldAV, subCells, idxVV, idxAAV, idxSV, sliceV, sliceSV, boundV, szIs, storeOp, storeS, setRowV, eff, extV, buildV, splice, eqSV, fitsL, eqCells, eqCell, minmaxV, capV, binBV, nilCheckV, bytesV, V.cells, V.stays]
  refine Runs.pcall rfl rfl rfl (vast_c a ha.1 ha.2 _) ?_
  cases va : vastR a
  case true =>
    (refine Runs.of_step Orc.nothing 300 ?_; simp -implicitDefEqProofs only [BB, Int.reduceEq, Int.reduceNe, Int.reduceLT, Int.reduceLE, Int.reduceGT, Int.reduceGE, Nat.reduceEqDiff, Nat.reduceAdd, Nat.reduceMul, Nat.reduceLeDiff, Nat.reduceSub, Nat.reduceLT, Nat.reduceBEq, ↓reduceIte, reduceCtorEq, ← decide_not, okind, vpre, vpure, intBin, intPre, strBin, strPre, popTo, argSlots, fldV, fldAV, subCells, idxVV, idxAAV, idxSV, sliceV, sliceSV, boundV, szIs, storeOp, storeS, setRowV, eff, extV, buildV, splice, eqSV, fitsL, eqCells, eqCell, minmaxV, capV, binBV, nilCheckV, bytesV, V.cells, V.stays, Orc.nothing])
    refine Runs.pcall rfl rfl rfl (awake36_c _) ?_
    (refine Runs.of_step Orc.nothing 300 ?_; simp -implicitDefEqProofs only [BB, Int.reduceEq, Int.reduceNe, Int.reduceLT, Int.reduceLE, Int.reduceGT, Int.reduceGE, Nat.reduceEqDiff, Nat.reduceAdd, Nat.reduceMul, Nat.reduceLeDiff, Nat.reduceSub, Nat.reduceLT, Nat.reduceBEq, ↓reduceIte, reduceCtorEq, ← decide_not, okind, vpre, vpure, intBin, intPre, strBin, strPre, popTo, argSlots, fldV, fldAV, subCells, idxVV, idxAAV, idxSV, sliceV, sliceSV, boundV, szIs, storeOp, storeS, setRowV, eff, extV, buildV, splice, eqSV, fitsL, eqCells, eqCell, minmaxV, capV, binBV, nilCheckV, bytesV, V.cells, V.stays, Orc.nothing])
    exact RetV.pure hs rfl
  (refine Runs.of_step Orc.nothing 300 ?_; simp -implicitDefEqProofs only [BB, Int.reduceEq, Int.reduceNe, Int.reduceLT, Int.reduceLE, Int.reduceGT, Int.reduceGE, Nat.reduceEqDiff, Nat.reduceAdd, Nat.reduceMul, Nat.reduceLeDiff, Nat.reduceSub, Nat.reduceLT, Nat.reduceBEq, ↓reduceIte, reduceCtorEq, ← decide_not, okind, vpre, vpure, intBin, intPre, strBin, strPre, popTo, argSlots, fldV, fldAV, subCells, idxVV, idxAAV, idxSV, sliceV, sliceSV, boundV, szIs, storeOp, storeS, setRowV, eff, extV, buildV, splice, eqSV, fitsL, eqCells, eqCell, minmaxV, capV, binBV, nilCheckV, bytesV, V.cells, V.stays, Orc.nothing])
  refine Runs.pcall rfl rfl rfl (vast_c b hb.1 hb.2 _) ?_
  cases vb : vastR b
  case true =>
    (refine Runs.of_step Orc.nothing 300 ?_; simp -implicitDefEqProofs only [BB, Int.reduceEq, Int.reduceNe, Int.reduceLT, Int.reduceLE, Int.reduceGT, Int.reduceGE, Nat.reduceEqDiff, Nat.reduceAdd, Nat.reduceMul, Nat.reduceLeDiff, Nat.reduceSub, Nat.reduceLT, Nat.reduceBEq, ↓reduceIte, reduceCtorEq, ← decide_not, okind, vpre, vpure, intBin, intPre, strBin, strPre, popTo, argSlots, fldV, fldAV, subCells, idxVV, idxAAV, idxSV, sliceV, sliceSV, boundV, szIs, storeOp, storeS, setRowV, eff, extV, buildV, splice, eqSV, fitsL, eqCells, eqCell, minmaxV, capV, binBV, nilCheckV, bytesV, V.cells, V.stays, Orc.nothing])
    refine Runs.pcall rfl rfl rfl (awake36_c _) ?_
    (refine Runs.of_step Orc.nothing 300 ?_; simp -implicitDefEqProofs only [BB, Int.reduceEq, Int.reduceNe, Int.reduceLT, Int.reduceLE, Int.reduceGT, Int.reduceGE, Nat.reduceEqDiff, Nat.reduceAdd, Nat.reduceMul, Nat.reduceLeDiff, Nat.reduceSub, Nat.reduceLT, Nat.reduceBEq, ↓reduceIte, reduceCtorEq, ← decide_not, okind, vpre, vpure, intBin, intPre, strBin, strPre, popTo, argSlots, fldV, fldAV, subCells, idxVV, idxAAV, idxSV, sliceV, sliceSV, boundV, szIs, storeOp, storeS, setRowV, eff, extV, buildV, splice, eqSV, fitsL, eqCells, eqCell, minmaxV, capV, binBV, nilCheckV, bytesV, V.cells, V.stays, Orc.nothing])
    exact RetV.pure hs rfl
  (refine Runs.of_step Orc.nothing 300 ?_; simp -implicitDefEqProofs only [BB, Int.reduceEq, Int.reduceNe, Int.reduceLT, Int.reduceLE, Int.reduceGT, Int.reduceGE, Nat.reduceEqDiff, Nat.reduceAdd, Nat.reduceMul, Nat.reduceLeDiff, Nat.reduceSub, Nat.reduceLT, Nat.reduceBEq, ↓reduceIte, reduceCtorEq, ← decide_not, okind, vpre, vpure, intBin, intPre, strBin, strPre, popTo, argSlots, fldV, fldAV, subCells, idxVV, idxAAV, idxSV, sliceV, sliceSV, boundV, szIs, storeOp, storeS, setRowV, eff, extV, buildV, splice, eqSV, fitsL, eqCells, eqCell, minmaxV, capV, binBV, nilCheckV, bytesV, Orc.nothing, b1, hx4, V.cells_agg, V.cells_int, V.cells_nils, V.cells_own, V.cells_sl, V.cells_str, V.cells_bool, V.cells_fn, V.cells_ptr, V.cells_rp, V.stays_agg, V.stays_int, V.stays_nils, V.stays_own, V.stays_sl, V.stays_str, V.stays_bool, V.stays_fn, V.stays_ptr, V.stays_rp])
  refine Runs.pcall rfl rfl rfl (vast_c x.sub hx.1 hx.2 _) ?_
  cases vx : vastR x.sub
  case true =>
    (refine Runs.of_step Orc.nothing 300 ?_; simp -implicitDefEqProofs only [BB, Int.reduceEq, Int.reduceNe, Int.reduceLT, Int.reduceLE, Int.reduceGT, Int.reduceGE, Nat.reduceEqDiff, Nat.reduceAdd, Nat.reduceMul, Nat.reduceLeDiff, Nat.reduceSub, Nat.reduceLT, Nat.reduceBEq, ↓reduceIte, reduceCtorEq, ← decide_not, okind, vpre, vpure, intBin, intPre, strBin, strPre, popTo, argSlots, fldV, fldAV, subCells, idxVV, idxAAV, idxSV, sliceV, sliceSV, boundV, szIs, storeOp, storeS, setRowV, eff, extV, buildV, splice, eqSV, fitsL, eqCells, eqCell, minmaxV, capV, binBV, nilCheckV, bytesV, V.cells, V.stays, Orc.nothing])
    refine Runs.pcall rfl rfl rfl (awake36_c _) ?_
    (refine Runs.of_step Orc.nothing 300 ?_; simp -implicitDefEqProofs only [BB, Int.reduceEq, Int.reduceNe, Int.reduceLT, Int.reduceLE, Int.reduceGT, Int.reduceGE, Nat.reduceEqDiff, Nat.reduceAdd, Nat.reduceMul, Nat.reduceLeDiff, Nat.reduceSub, Nat.reduceLT, Nat.reduceBEq, ↓reduceIte, reduceCtorEq, ← decide_not, okind, vpre, vpure, intBin, intPre, strBin, strPre, popTo, argSlots, fldV, fldAV, subCells, idxVV, idxAAV, idxSV, sliceV, sliceSV, boundV, szIs, storeOp, storeS, setRowV, eff, extV, buildV, splice, eqSV, fitsL, eqCells, eqCell, minmaxV, capV, binBV, nilCheckV, bytesV, V.cells, V.stays, Orc.nothing])
    exact RetV.pure hs rfl
  (refine Runs.of_step Orc.nothing 300 ?_; simp -implicitDefEqProofs only [BB, Int.reduceEq, Int.reduceNe, Int.reduceLT, Int.reduceLE, Int.reduceGT, Int.reduceGE, Nat.reduceEqDiff, Nat.reduceAdd, Nat.reduceMul, Nat.reduceLeDiff, Nat.reduceSub, Nat.reduceLT, Nat.reduceBEq, ↓reduceIte, reduceCtorEq, ← decide_not, okind, vpre, vpure, intBin, intPre, strBin, strPre, popTo, argSlots, fldV, fldAV, subCells, idxVV, idxAAV, idxSV, sliceV, sliceSV, boundV, szIs, storeOp, storeS, setRowV, eff, extV, buildV, splice, eqSV, fitsL, eqCells, eqCell, minmaxV, capV, binBV, nilCheckV, bytesV, Orc.nothing, a2, hy4, V.cells_agg, V.cells_int, V.cells_nils, V.cells_own, V.cells_sl, V.cells_str, V.cells_bool, V.cells_fn, V.cells_ptr, V.cells_rp, V.stays_agg, V.stays_int, V.stays_nils, V.stays_own, V.stays_sl, V.stays_str, V.stays_bool, V.stays_fn, V.stays_ptr, V.stays_rp])
  refine Runs.pcall rfl rfl rfl (vast_c y.sub hy.1 hy.2 _) ?_
  cases vy : vastR y.sub
  case true =>
    (refine Runs.of_step Orc.nothing 300 ?_; simp -implicitDefEqProofs only [BB, Int.reduceEq, Int.reduceNe, Int.reduceLT, Int.reduceLE, Int.reduceGT, Int.reduceGE, Nat.reduceEqDiff, Nat.reduceAdd, Nat.reduceMul, Nat.reduceLeDiff, Nat.reduceSub, Nat.reduceLT, Nat.reduceBEq, ↓reduceIte, reduceCtorEq, ← decide_not, okind, vpre, vpure, intBin, intPre, strBin, strPre, popTo, argSlots, fldV, fldAV, subCells, idxVV, idxAAV, idxSV, sliceV, sliceSV, boundV, szIs, storeOp, storeS, setRowV, eff, extV, buildV, splice, eqSV, fitsL, eqCells, eqCell, minmaxV, capV, binBV, nilCheckV, bytesV, V.cells, V.stays, Orc.nothing])
    refine Runs.pcall rfl rfl rfl (awake36_c _) ?_
    (refine Runs.of_step Orc.nothing 300 ?_; simp -implicitDefEqProofs only [BB, Int.reduceEq, Int.reduceNe, Int.reduceLT, Int.reduceLE, Int.reduceGT, Int.reduceGE, Nat.reduceEqDiff, Nat.reduceAdd, Nat.reduceMul, Nat.reduceLeDiff, Nat.reduceSub, Nat.reduceLT, Nat.reduceBEq, ↓reduceIte, reduceCtorEq, ← decide_not, okind, vpre, vpure, intBin, intPre, strBin, strPre, popTo, argSlots, fldV, fldAV, subCells, idxVV, idxAAV, idxSV, sliceV, sliceSV, boundV, szIs, storeOp, storeS, setRowV, eff, extV, buildV, splice, eqSV, fitsL, eqCells, eqCell, minmaxV, capV, binBV, nilCheckV, bytesV, V.cells, V.stays, Orc.nothing])
    exact RetV.pure hs rfl
  (refine Runs.of_step Orc.nothing 300 ?_; simp -implicitDefEqProofs only [BB, Int.reduceEq, Int.reduceNe, Int.reduceLT, Int.reduceLE, Int.reduceGT, Int.reduceGE, Nat.reduceEqDiff, Nat.reduceAdd, Nat.reduceMul, Nat.reduceLeDiff, Nat.reduceSub, Nat.reduceLT, Nat.reduceBEq, ↓reduceIte, reduceCtorEq, ← decide_not, okind, vpre, vpure, intBin, intPre, strBin, strPre, popTo, argSlots, fldV, fldAV, subCells, idxVV, idxAAV, idxSV, sliceV, sliceSV, boundV, szIs, storeOp, storeS, setRowV, eff, extV, buildV, splice, eqSV, fitsL, eqCells, eqCell, minmaxV, capV, binBV, nilCheckV, bytesV, V.cells, V.stays, Orc.nothing])
  have la := (vastR_len va).hlf (by omega)
  have lb := (vastR_len vb).hlf (by omega)
  have lx := ((vastR_len vx).hlf (by omega)).sml.fine
  have ly := ((vastR_len vy).hlf (by omega)).sml.fine
  have q1 := sameE_c x y lx ly
  have q2 := sameE8_c x y lx ly
  rw [← hxs, ← hys] at q1 q2
  refine Runs.pcall rfl rfl rfl (between_c a b la lb _) ?_
  obtain ⟨zs, hzs⟩ : ∃ v, v = encE (betweenR a b) := ⟨_, rfl⟩
  have hzc : zs.cells.length = 17 := by rw [hzs]; rfl
  have hzst : zs.stays = true := by rw [hzs]; rfl
  have hzcl : V.agg zs.cells = zs := by rw [hzs]; rfl
  rw [← hzs]
  (refine Runs.of_step Orc.nothing 300 ?_; simp -implicitDefEqProofs only [BB, Int.reduceEq, Int.reduceNe, Int.reduceLT, Int.reduceLE, Int.reduceGT, Int.reduceGE, Nat.reduceEqDiff, Nat.reduceAdd, Nat.reduceMul, Nat.reduceLeDiff, Nat.reduceSub, Nat.reduceLT, Nat.reduceBEq, ↓reduceIte, reduceCtorEq, ← decide_not, okind, vpre, vpure, intBin, intPre, strBin, strPre, popTo, argSlots, fldV, fldAV, subCells, idxVV, idxAAV, idxSV, sliceV, sliceSV, boundV, szIs, storeOp, storeS, setRowV, eff, extV, buildV, splice, eqSV, fitsL, eqCells, eqCell, minmaxV, capV, binBV, nilCheckV, bytesV, Orc.nothing, V.cells_agg, V.cells_int, V.cells_nils, V.cells_own, V.cells_sl, V.cells_str, V.cells_bool, V.cells_fn, V.cells_ptr, V.cells_rp, V.stays_agg, V.stays_int, V.stays_nils, V.stays_own, V.stays_sl, V.stays_str, V.stays_bool, V.stays_fn, V.stays_ptr, V.stays_rp, hzc, hzst, hzcl])
  refine effR_new fun id3 σ3 s3 a3 f3 => ?_
  have n13 := ne_new b1 f3
  have n23 := ne_new a2 f3
  have c1 := s3 _ _ b1
  have c2 := s3 _ _ a2
  have hs3 := (hs.trans s3).updK (o := ⟨39, 17, [zs]⟩) (hs.none f3)
  simp -implicitDefEqProofs only [BB, Int.reduceEq, Int.reduceNe, Int.reduceLT, Int.reduceLE, Int.reduceGT, Int.reduceGE, Nat.reduceEqDiff, Nat.reduceAdd, Nat.reduceMul, Nat.reduceLeDiff, Nat.reduceSub, Nat.reduceLT, Nat.reduceBEq, ↓reduceIte, reduceCtorEq, ← decide_not, okind, vpre, vpure, intBin, intPre, strBin, strPre, popTo, argSlots, fldV, fldAV, subCells, idxVV, idxAAV, idxSV, sliceV, sliceSV, boundV, szIs, storeOp, storeS, setRowV, eff, extV, buildV, splice, eqSV, fitsL, eqCells, eqCell, minmaxV, capV, binBV, nilCheckV, bytesV, a3, c1, c2, upd_ne n13, upd_ne n23, V.cells_agg, V.cells_int, V.cells_nils, V.cells_own, V.cells_sl, V.cells_str, V.cells_bool, V.cells_fn, V.cells_ptr, V.cells_rp, V.stays_agg, V.stays_int, V.stays_nils, V.stays_own, V.stays_sl, V.stays_str, V.stays_bool, V.stays_fn, V.stays_ptr, V.stays_rp, hzc, hzst, hzcl, hxc, hxcl, hyc, hycl]
  refine Go.pcallG rfl rfl rfl q1 ?_
  (refine Go.of_step Orc.nothing 300 _ _ ?_; simp -implicitDefEqProofs only [BB, Int.reduceEq, Int.reduceNe, Int.reduceLT, Int.reduceLE, Int.reduceGT, Int.reduceGE, Nat.reduceEqDiff, Nat.reduceAdd, Nat.reduceMul, Nat.reduceLeDiff, Nat.reduceSub, Nat.reduceLT, Nat.reduceBEq, ↓reduceIte, reduceCtorEq, ← decide_not, okind, vpre, vpure, intBin, intPre, strBin, strPre, popTo, argSlots, fldV, fldAV, subCells, idxVV, idxAAV, idxSV, sliceV, sliceSV, boundV, szIs, storeOp, storeS, setRowV, eff, extV, buildV, splice, eqSV, fitsL, eqCells, eqCell, minmaxV, capV, binBV, nilCheckV, bytesV, Orc.nothing, c1, c2, upd_ne n13, upd_ne n23, V.cells_agg, V.cells_int, V.cells_nils, V.cells_own, V.cells_sl, V.cells_str, V.cells_bool, V.cells_fn, V.cells_ptr, V.cells_rp, V.stays_agg, V.stays_int, V.stays_nils, V.stays_own, V.stays_sl, V.stays_str, V.stays_bool, V.stays_fn, V.stays_ptr, V.stays_rp, hxc, hxcl, hyc, hycl])
  refine Go.pcallG rfl rfl rfl q2 ?_
  have hbe : (decide (x = y) == decide (x = y)) = true := by simp
  (refine Go.of_step Orc.nothing 300 _ _ ?_; simp -implicitDefEqProofs only [BB, Int.reduceEq, Int.reduceNe, Int.reduceLT, Int.reduceLE, Int.reduceGT, Int.reduceGE, Nat.reduceEqDiff, Nat.reduceAdd, Nat.reduceMul, Nat.reduceLeDiff, Nat.reduceSub, Nat.reduceLT, Nat.reduceBEq, ↓reduceIte, reduceCtorEq, ← decide_not, okind, vpre, vpure, intBin, intPre, strBin, strPre, popTo, argSlots, fldV, fldAV, subCells, idxVV, idxAAV, idxSV, sliceV, sliceSV, boundV, szIs, storeOp, storeS, setRowV, eff, extV, buildV, splice, eqSV, fitsL, eqCells, eqCell, minmaxV, capV, binBV, nilCheckV, bytesV, V.cells, V.stays, Orc.nothing, hbe])
  have zeroE : PFun Try.prog 24 [encE Ed.zero, .agg [.int .i64 0, .int .i64 0, .int .i64 0, .int .i64 0, .nils, .int .i64 0, .int .i64 0, .int .i64 0, .int .i64 0, .int .i64 0, .int .i64 0, .int .i64 0, .int .i64 0, .int .i64 0, .int .i64 0, .int .i64 0, .int .i64 0]] (.bool true) := fun σ => by
    have h := sameE8_c Ed.zero Ed.zero ⟨by simp [Ed.zero], by simp [Ed.zero]⟩ ⟨by simp [Ed.zero], by simp [Ed.zero]⟩
    simp only [decide_true] at h
    refine PFun.borrow ?_ h rfl
    simp only [WkL]
    exact ⟨Wk.refl (nost_sub σ) _, wk_edN (nost_sub σ) 0 0 0 0 Sty.zero, trivial⟩
  refine Runs.pcall rfl rfl rfl (is_c a la.sml.fine _) ?_
  have done : ∀ (h : (isB a && isB b) = false), zs = encE Ed.zero := fun h => by rw [hzs, betweenR, h]; rfl
  cases hba : isB a
  · have hz0 := done (by rw [hba]; rfl)
    have he : (if (isB a && isB b) = true then (0 : Int) else 4) = 4 := by rw [hba]; rfl
    rw [hba] at he
    rw [← hz0] at zeroE
    (refine Runs.of_step Orc.nothing 300 ?_; simp -implicitDefEqProofs only [BB, Int.reduceEq, Int.reduceNe, Int.reduceLT, Int.reduceLE, Int.reduceGT, Int.reduceGE, Nat.reduceEqDiff, Nat.reduceAdd, Nat.reduceMul, Nat.reduceLeDiff, Nat.reduceSub, Nat.reduceLT, Nat.reduceBEq, ↓reduceIte, reduceCtorEq, ← decide_not, okind, vpre, vpure, intBin, intPre, strBin, strPre, popTo, argSlots, fldV, fldAV, subCells, idxVV, idxAAV, idxSV, sliceV, sliceSV, boundV, szIs, storeOp, storeS, setRowV, eff, extV, buildV, splice, eqSV, fitsL, eqCells, eqCell, minmaxV, capV, binBV, nilCheckV, bytesV, Orc.nothing, upd_same, V.cells_agg, V.cells_int, V.cells_nils, V.cells_own, V.cells_sl, V.cells_str, V.cells_bool, V.cells_fn, V.cells_ptr, V.cells_rp, V.stays_agg, V.stays_int, V.stays_nils, V.stays_own, V.stays_sl, V.stays_str, V.stays_bool, V.stays_fn, V.stays_ptr, V.stays_rp, hzc, hzcl, he])
    refine Runs.pcall rfl rfl rfl (zeroE _) ?_
    (refine Runs.of_step Orc.nothing 300 ?_; simp -implicitDefEqProofs only [BB, Int.reduceEq, Int.reduceNe, Int.reduceLT, Int.reduceLE, Int.reduceGT, Int.reduceGE, Nat.reduceEqDiff, Nat.reduceAdd, Nat.reduceMul, Nat.reduceLeDiff, Nat.reduceSub, Nat.reduceLT, Nat.reduceBEq, ↓reduceIte, reduceCtorEq, ← decide_not, okind, vpre, vpure, intBin, intPre, strBin, strPre, popTo, argSlots, fldV, fldAV, subCells, idxVV, idxAAV, idxSV, sliceV, sliceSV, boundV, szIs, storeOp, storeS, setRowV, eff, extV, buildV, splice, eqSV, fitsL, eqCells, eqCell, minmaxV, capV, binBV, nilCheckV, bytesV, V.cells, V.stays, Orc.nothing])
    refine Runs.pcall rfl rfl rfl (awake36_c _) ?_
    (refine Runs.of_step Orc.nothing 300 ?_; simp -implicitDefEqProofs only [BB, Int.reduceEq, Int.reduceNe, Int.reduceLT, Int.reduceLE, Int.reduceGT, Int.reduceGE, Nat.reduceEqDiff, Nat.reduceAdd, Nat.reduceMul, Nat.reduceLeDiff, Nat.reduceSub, Nat.reduceLT, Nat.reduceBEq, ↓reduceIte, reduceCtorEq, ← decide_not, okind, vpre, vpure, intBin, intPre, strBin, strPre, popTo, argSlots, fldV, fldAV, subCells, idxVV, idxAAV, idxSV, sliceV, sliceSV, boundV, szIs, storeOp, storeS, setRowV, eff, extV, buildV, splice, eqSV, fitsL, eqCells, eqCell, minmaxV, capV, binBV, nilCheckV, bytesV, V.cells, V.stays, Orc.nothing])
    exact RetV.pure hs3 rfl
  · (refine Runs.of_step Orc.nothing 300 ?_; simp -implicitDefEqProofs only [BB, Int.reduceEq, Int.reduceNe, Int.reduceLT, Int.reduceLE, Int.reduceGT, Int.reduceGE, Nat.reduceEqDiff, Nat.reduceAdd, Nat.reduceMul, Nat.reduceLeDiff, Nat.reduceSub, Nat.reduceLT, Nat.reduceBEq, ↓reduceIte, reduceCtorEq, ← decide_not, okind, vpre, vpure, intBin, intPre, strBin, strPre, popTo, argSlots, fldV, fldAV, subCells, idxVV, idxAAV, idxSV, sliceV, sliceSV, boundV, szIs, storeOp, storeS, setRowV, eff, extV, buildV, splice, eqSV, fitsL, eqCells, eqCell, minmaxV, capV, binBV, nilCheckV, bytesV, V.cells, V.stays, Orc.nothing])
    refine Runs.pcall rfl rfl rfl (is_c b lb.sml.fine _) ?_
    cases hbb : isB b
    · have hz0 := done (by rw [hba, hbb]; rfl)
      rw [← hz0] at zeroE
      (refine Runs.of_step Orc.nothing 300 ?_; simp -implicitDefEqProofs only [BB, Int.reduceEq, Int.reduceNe, Int.reduceLT, Int.reduceLE, Int.reduceGT, Int.reduceGE, Nat.reduceEqDiff, Nat.reduceAdd, Nat.reduceMul, Nat.reduceLeDiff, Nat.reduceSub, Nat.reduceLT, Nat.reduceBEq, ↓reduceIte, reduceCtorEq, ← decide_not, okind, vpre, vpure, intBin, intPre, strBin, strPre, popTo, argSlots, fldV, fldAV, subCells, idxVV, idxAAV, idxSV, sliceV, sliceSV, boundV, szIs, storeOp, storeS, setRowV, eff, extV, buildV, splice, eqSV, fitsL, eqCells, eqCell, minmaxV, capV, binBV, nilCheckV, bytesV, Orc.nothing, upd_same, V.cells_agg, V.cells_int, V.cells_nils, V.cells_own, V.cells_sl, V.cells_str, V.cells_bool, V.cells_fn, V.cells_ptr, V.cells_rp, V.stays_agg, V.stays_int, V.stays_nils, V.stays_own, V.stays_sl, V.stays_str, V.stays_bool, V.stays_fn, V.stays_ptr, V.stays_rp, hzc, hzcl, hba, hbb])
      refine Runs.pcall rfl rfl rfl (zeroE _) ?_
      (refine Runs.of_step Orc.nothing 300 ?_; simp -implicitDefEqProofs only [BB, Int.reduceEq, Int.reduceNe, Int.reduceLT, Int.reduceLE, Int.reduceGT, Int.reduceGE, Nat.reduceEqDiff, Nat.reduceAdd, Nat.reduceMul, Nat.reduceLeDiff, Nat.reduceSub, Nat.reduceLT, Nat.reduceBEq, ↓reduceIte, reduceCtorEq, ← decide_not, okind, vpre, vpure, intBin, intPre, strBin, strPre, popTo, argSlots, fldV, fldAV, subCells, idxVV, idxAAV, idxSV, sliceV, sliceSV, boundV, szIs, storeOp, storeS, setRowV, eff, extV, buildV, splice, eqSV, fitsL, eqCells, eqCell, minmaxV, capV, binBV, nilCheckV, bytesV, V.cells, V.stays, Orc.nothing])
      refine Runs.pcall rfl rfl rfl (awake36_c _) ?_
      (refine Runs.of_step Orc.nothing 300 ?_; simp -implicitDefEqProofs only [BB, Int.reduceEq, Int.reduceNe, Int.reduceLT, Int.reduceLE, Int.reduceGT, Int.reduceGE, Nat.reduceEqDiff, Nat.reduceAdd, Nat.reduceMul, Nat.reduceLeDiff, Nat.reduceSub, Nat.reduceLT, Nat.reduceBEq, ↓reduceIte, reduceCtorEq, ← decide_not, okind, vpre, vpure, intBin, intPre, strBin, strPre, popTo, argSlots, fldV, fldAV, subCells, idxVV, idxAAV, idxSV, sliceV, sliceSV, boundV, szIs, storeOp, storeS, setRowV, eff, extV, buildV, splice, eqSV, fitsL, eqCells, eqCell, minmaxV, capV, binBV, nilCheckV, bytesV, V.cells, V.stays, Orc.nothing])
      exact RetV.pure hs3 rfl
    · have hbc : betweenR a b = betweenC a b := by rw [betweenR, hba, hbb]; rfl
      have hrb := rbetween_c a b la lb hba hbb
      have hfs := betweenC_fine (a := a) lb hbb
      have hq := sameE8_c _ _ hfs hfs
      simp only [decide_true] at hq
      rw [hbc] at hzs
      rw [← hzs] at hrb hq
      (refine Runs.of_step Orc.nothing 300 ?_; simp -implicitDefEqProofs only [BB, Int.reduceEq, Int.reduceNe, Int.reduceLT, Int.reduceLE, Int.reduceGT, Int.reduceGE, Nat.reduceEqDiff, Nat.reduceAdd, Nat.reduceMul, Nat.reduceLeDiff, Nat.reduceSub, Nat.reduceLT, Nat.reduceBEq, ↓reduceIte, reduceCtorEq, ← decide_not, okind, vpre, vpure, intBin, intPre, strBin, strPre, popTo, argSlots, fldV, fldAV, subCells, idxVV, idxAAV, idxSV, sliceV, sliceSV, boundV, szIs, storeOp, storeS, setRowV, eff, extV, buildV, splice, eqSV, fitsL, eqCells, eqCell, minmaxV, capV, binBV, nilCheckV, bytesV, Orc.nothing, upd_same, V.cells_agg, V.cells_int, V.cells_nils, V.cells_own, V.cells_sl, V.cells_str, V.cells_bool, V.cells_fn, V.cells_ptr, V.cells_rp, V.stays_agg, V.stays_int, V.stays_nils, V.stays_own, V.stays_sl, V.stays_str, V.stays_bool, V.stays_fn, V.stays_ptr, V.stays_rp, hzc, hzcl, hba, hbb])
      refine Go.pcallG rfl rfl rfl hrb ?_
      (refine Go.of_step Orc.nothing 300 _ _ ?_; simp -implicitDefEqProofs only [BB, Int.reduceEq, Int.reduceNe, Int.reduceLT, Int.reduceLE, Int.reduceGT, Int.reduceGE, Nat.reduceEqDiff, Nat.reduceAdd, Nat.reduceMul, Nat.reduceLeDiff, Nat.reduceSub, Nat.reduceLT, Nat.reduceBEq, ↓reduceIte, reduceCtorEq, ← decide_not, okind, vpre, vpure, intBin, intPre, strBin, strPre, popTo, argSlots, fldV, fldAV, subCells, idxVV, idxAAV, idxSV, sliceV, sliceSV, boundV, szIs, storeOp, storeS, setRowV, eff, extV, buildV, splice, eqSV, fitsL, eqCells, eqCell, minmaxV, capV, binBV, nilCheckV, bytesV, V.cells, V.stays, Orc.nothing])
      refine Go.pcallG rfl rfl rfl hq ?_
      (refine Go.of_step Orc.nothing 300 _ _ ?_; simp -implicitDefEqProofs only [BB, Int.reduceEq, Int.reduceNe, Int.reduceLT, Int.reduceLE, Int.reduceGT, Int.reduceGE, Nat.reduceEqDiff, Nat.reduceAdd, Nat.reduceMul, Nat.reduceLeDiff, Nat.reduceSub, Nat.reduceLT, Nat.reduceBEq, ↓reduceIte, reduceCtorEq, ← decide_not, okind, vpre, vpure, intBin, intPre, strBin, strPre, popTo, argSlots, fldV, fldAV, subCells, idxVV, idxAAV, idxSV, sliceV, sliceSV, boundV, szIs, storeOp, storeS, setRowV, eff, extV, buildV, splice, eqSV, fitsL, eqCells, eqCell, minmaxV, capV, binBV, nilCheckV, bytesV, V.cells, V.stays, Orc.nothing])
      refine Go.pcallG rfl rfl rfl awake36_c ?_
      (refine Go.of_step Orc.nothing 300 _ _ ?_; simp -implicitDefEqProofs only [BB, Int.reduceEq, Int.reduceNe, Int.reduceLT, Int.reduceLE, Int.reduceGT, Int.reduceGE, Nat.reduceEqDiff, Nat.reduceAdd, Nat.reduceMul, Nat.reduceLeDiff, Nat.reduceSub, Nat.reduceLT, Nat.reduceBEq, ↓reduceIte, reduceCtorEq, ← decide_not, okind, vpre, vpure, intBin, intPre, strBin, strPre, popTo, argSlots, fldV, fldAV, subCells, idxVV, idxAAV, idxSV, sliceV, sliceSV, boundV, szIs, storeOp, storeS, setRowV, eff, extV, buildV, splice, eqSV, fitsL, eqCells, eqCell, minmaxV, capV, binBV, nilCheckV, bytesV, V.cells, V.stays, Orc.nothing])
      exact RetV.pure hs3 rfl
end Go.Vc
