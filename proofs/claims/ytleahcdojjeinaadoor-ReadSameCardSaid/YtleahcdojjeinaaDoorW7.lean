/- Part 7 of the library of this proof. -/
import Derived.Test.YtleahcdojjeinaaDoorW6
import Derived.Shelf.Strings.Builder1
import Derived.Laws.Tables
set_option linter.all false
namespace Go.Vc
open Go.Proofs Go.Shelf Go.RowKit
variable {P : Program} {ρ : Ren}
/-- what a builder's row holds -/
def bRow (T : TypeId) (a buf : V) : Ob := ⟨T, 2, [.agg [a, buf]]⟩
/-- a builder, in the store: beside the rows of K it has its own row, and that of its bytes -/
structure IsB (T u8 : TypeId) (K σ : Store) (id : Nat) (l : List UInt8) : Prop where
  sub : SubStore K σ
  new : K id = none
  row : ∃ a buf, σ id = some (bRow T a buf) ∧ (a = .nilp ∨ a = .ptr id 0 0) ∧ OutV (upd K id (bRow T a buf)) σ u8 1 buf (l.map fun b => .int .u8 b.toNat)
theorem IsB.start {T u8 : TypeId} {K σ : Store} {id : Nat} (hs : SubStore K σ) (hn : K id = none) (hid : σ id = some (bRow T .nilp .nils)) : IsB T u8 K σ id [] :=
  ⟨hs, hn, _, _, hid, .inl rfl, .inl ⟨rfl, rfl⟩⟩
theorem IsB.mono {T u8 : TypeId} {K σ σ' : Store} {id : Nat} {l : List UInt8} (h : IsB T u8 K σ id l) (hs : SubStore σ σ') : IsB T u8 K σ' id l := by
  obtain ⟨h1, h2, a, buf, h3, h4, h5⟩ := h
  refine ⟨h1.trans hs, h2, a, buf, hs _ _ h3, h4, ?_⟩
  rcases h5 with ⟨h5, h6⟩ | ⟨i, h5, h6, h7⟩
  · exact .inl ⟨h5, h6⟩
  · exact .inr ⟨i, h5, hs _ _ h6, h7⟩
theorem IsB.less {T u8 : TypeId} {K K' σ : Store} {id : Nat} {l : List UInt8} (h : IsB T u8 K σ id l) (hs : SubStore K' K) : IsB T u8 K' σ id l := by
  obtain ⟨h1, h2, a, buf, h3, h4, h5⟩ := h
  refine ⟨hs.trans h1, hs.none h2, a, buf, h3, h4, ?_⟩
  rcases h5 with ⟨h5, h6⟩ | ⟨i, h5, h6, h7⟩
  · exact .inl ⟨h5, h6⟩
  · refine .inr ⟨i, h5, h6, ?_⟩
    unfold Vc.upd at h7 ⊢
    split at h7
    · cases h7
    · rename_i hi; rw [if_neg hi]; exact hs.none h7
theorem Sat.gone {w w' : World} {μ : Mu} {σ K : Store} (h : Sat w (Owned μ σ) μ σ w) (hK : SubStore K σ) (g : Option Nat) (hg : ∀ b, g = some b → Owned μ σ b ∧ ∀ i o sz cap, K i = some o → μ i = .lies b sz cap → False)
    (h1 : w'.os = w.os) (h2 : w'.tape = w.tape) (h3 : w'.output = w.output) (h4 : w'.heap.size = w.heap.size) (h5 : ∀ k, some k ≠ g → w'.heap[k]? = w.heap[k]?) : Sat w (Owned μ σ) μ K w' := by
  have hk : Keeps (Owned μ σ) (Owned μ K) w w' := fun b _ hn => ⟨fun ho => hn (ho.sub hK), h5 b fun e => hn (hg b e.symm).1⟩
  refine ⟨by omega, h1, h2, h3, fun b hb hn => (hk b hb hn).2, h.fin, fun i i' o o' b sz cap sz' cap' a1 a2 a3 a4 => h.inj i i' o o' b sz cap sz' cap' (hK _ _ a1) (hK _ _ a2) a3 a4, fun i o ho => ?_, fun b hb _ => hb.sub hK, h.glob⟩
  refine (h.obj i o (hK _ _ ho)).mono (MuLe.refl μ) hk (by omega) fun b sz cap hp => h5 b fun e => ?_
  exact (hg b e.symm).2 i o sz cap ho hp
end Go.Vc
