/- Part 6 of the library of this proof. -/
import Derived.Test.YtofoeghobdfojaaW5
import Derived.Below
set_option linter.all false
namespace Go.Vc
open Go.Proofs Go.RowKit
def Fin0 (μ : Mu) : Prop := ∃ N, ∀ id, N ≤ id → μ id = .unborn
theorem owned_nost {μ : Mu} {b : Nat} : ¬ Owned μ nost b := by
  rintro ⟨id, o, sz, cap, h, _⟩
  simp [nost] at h
theorem sat_nost {μ : Mu} (h : Fin0 μ) (w : World) : Sat w (Owned μ nost) μ nost w :=
  ⟨Nat.le_refl _, rfl, rfl, rfl, fun _ _ _ => rfl, h, fun _ _ _ _ _ _ _ _ _ h => by simp [nost] at h, fun _ _ h => by simp [nost] at h, fun _ h _ => absurd h owned_nost⟩
theorem PFun.run {P : Program} {f : FuncId} {us : List V} {v : V} (h : PFun P f us v) {w : World} {vals : List Value} {μ : Mu} (hμ : Fin0 μ) (hr : RepAll μ (Owned μ nost) w us vals) :
    Calls P f vals.toArray w fun e w' => ∃ val, e = .returned val ∧ Below w.heap.size w w' ∧ ∃ μ', Fin0 μ' ∧ Rep μ' (Owned μ' nost) w' v val := by
  refine ((h nost).2 μ w vals (sat_nost hμ w) hr).mono ?_
  rintro e w' ⟨r, σ', μ', val, h1, ⟨rfl, rfl⟩, h3, h4, h5⟩
  exact ⟨val, h1, ⟨h4.os, h4.tape, h4.output, h4.size, fun k hk => h4.same k hk owned_nost⟩, μ', h4.fin, h5⟩
/-- a value that is these nodes -/
def NodesAt (l : List Nd) (w : World) (x : Value) : Prop := ∃ μ, Fin0 μ ∧ Rep μ (Owned μ nost) w (encNs l) x
theorem NodesAt.below {l : List Nd} {w W : World} {x : Value} {B : Nat} (h : NodesAt l w x) (hB : w.heap.size ≤ B) (hb : Below B w W) : NodesAt l W x := by
  obtain ⟨μ, h1, h2⟩ := h
  exact ⟨μ, h1, Rep.mono (MuLe.refl μ) (fun b hb' _ => ⟨owned_nost, hb.block b (by omega)⟩) hb.size _ _ h2⟩
theorem has9_k {l : List Nd} {a : Int} {x : Value} {w : World} (hx : NodesAt l w x) : Calls Try.prog 94 #[x, .int .i64 a] w fun e w' => e = .returned (.bool (hasI l a)) ∧ Below w.heap.size w w' := by
  obtain ⟨μ, h1, h2⟩ := hx
  refine ((has9_c l a).run h1 (vals := [x, .int .i64 a]) (by simp only [RepAll]; exact ⟨_, _, rfl, h2, _, _, rfl, by simp [Rep], rfl⟩)).mono ?_
  rintro e w' ⟨val, rfl, hb, μ', _, hr⟩
  simp only [Rep] at hr
  exact ⟨by rw [hr], hb⟩
theorem parent9_k {l : List Nd} (hl : Fine l) (hb : isB l = true) {a : Nat} (ha : a < l.length) {x : Value} {w : World} (hx : NodesAt l w x) :
    Calls Try.prog 107 #[x, .int .i64 a] w fun e w' => e = .returned (.int .i64 (parR l a)) ∧ Below w.heap.size w w' := by
  obtain ⟨μ, h1, h2⟩ := hx
  refine ((parent9_c l hl hb a ha).run h1 (vals := [x, .int .i64 a]) (by simp only [RepAll]; exact ⟨_, _, rfl, h2, _, _, rfl, by simp [Rep], rfl⟩)).mono ?_
  rintro e w' ⟨val, rfl, hb, μ', _, hr⟩
  simp only [Rep] at hr
  exact ⟨by rw [hr], hb⟩
theorem of_k {l : List Nd} (hl : Fine l) (hb : isB l = true) {x : Value} {w : World} (hx : NodesAt l w x) :
    Calls Try.prog 93 #[x] w fun e w' => ∃ y, e = .returned (.agg #[y]) ∧ NodesAt l w' y ∧ Below w.heap.size w w' := by
  obtain ⟨μ, h1, h2⟩ := hx
  refine ((of_c l hl hb).run h1 (vals := [x]) (by simp only [RepAll]; exact ⟨_, _, rfl, h2, rfl⟩)).mono ?_
  rintro e w' ⟨val, rfl, hb, μ', h1', hr⟩
  simp only [Rep] at hr
  obtain ⟨vals, rfl, hr, _⟩ := hr
  simp only [RepAll] at hr
  obtain ⟨y, ys, rfl, hr, rfl⟩ := hr
  exact ⟨y, rfl, ⟨μ', h1', hr⟩, hb⟩
/-- the nodes above one, from within -/
def ups (l : List Nd) : Nat → Int → List Int
  | 0, _ => []
  | f + 1, p => if 0 ≤ p then p :: ups l f (parR l p.toNat) else []
theorem ups_neg {l : List Nd} {f : Nat} {p : Int} (h : p < 0) : ups l f p = [] := by
  cases f with
  | zero => rfl
  | succ f => rw [ups, if_neg (by omega)]
theorem ups_pos {l : List Nd} {f : Nat} {p : Int} (h : 0 ≤ p) (hf : p < f) : ∃ g, f = g + 1 ∧ ups l f p = p :: ups l g (parR l p.toNat) := by
  cases f with
  | zero => omega
  | succ f => exact ⟨f, rfl, by rw [ups, if_pos h]⟩
theorem parR_range (l : List Nd) (a : Nat) : -1 ≤ parR l a ∧ parR l a < a := parD_range l a a
end Go.Vc
