/- Part 5 of the library of this proof. -/
import Derived.Test.YtkmjiefaneibjaaGreatDoorW4
set_option linter.all false
namespace Go.Vc
variable {P : Program} {n : Nat} {st : St} {Q : St → Prop} {k : List It}
theorem T.pure {P : Program} {i : VIns} {x : St} {K : St → Prop} {v : V} (hw : wantV x.s i.g = some true) (hk : okind i.op = 0) (hp : vpre x.s i.op) (hv : vpure x.σ x.s i.op = some v) (h : K ⟨putO x.s i.dst v, x.σ⟩) : T P i x K := by
  unfold T
  simp only [hw]
  unfold TO
  simp only [hk]
  exact ⟨hp, v, hv, h⟩
theorem T.store {P : Program} {d : Option Nat} {sz : Nat} {xa xv : VX} {x : St} {K : St → Prop} {σ' : Store} (hv : storeS x.σ sz (xa.ev x.s) (xv.ev x.s) = some σ') (h : K ⟨putO x.s d (.tup []), σ'⟩) :
    T P ⟨d, .store sz xa xv, none⟩ x K := ⟨σ', hv, h⟩
theorem readyV_mem {deps : List (List Nat)} {listed : List Nat} {i : Nat} (h : i ∈ readyV deps listed) : i < deps.length ∧ i ∉ listed ∧ ∀ k ∈ deps.getD i [], k ∈ listed := by
  unfold readyV at h
  obtain ⟨h1, h2⟩ := List.mem_filter.1 h
  simp only [Bool.and_eq_true, Bool.not_eq_true', List.all_eq_true] at h2
  exact ⟨by simpa using h1, by simpa using h2.1, fun k hk => by simpa using h2.2 k hk⟩
theorem pigeon : ∀ (n : Nat) (L : List Nat), L.Nodup → (∀ k ∈ L, k < n) → L.length ≤ n ∧ (L.length = n → ∀ k, k < n → k ∈ L)
  | 0, L, _, h => by
    cases L with
    | nil => simp
    | cons a L => have := h a (by simp); omega
  | n + 1, L, hd, h => by
    by_cases hn : n ∈ L
    · have h1 := pigeon n (L.erase n) (hd.erase n) fun k hk => by
        have h2 := h k (List.mem_of_mem_erase hk)
        have h3 : k ≠ n := fun e => by subst e; exact (List.Nodup.not_mem_erase hd) hk
        omega
      have h4 := List.length_erase_of_mem hn
      have h5 : 0 < L.length := List.length_pos_of_mem hn
      refine ⟨by omega, fun he k hk => ?_⟩
      by_cases hkn : k = n
      · rw [hkn]; exact hn
      · exact List.mem_of_mem_erase (h1.2 (by omega) k (by omega))
    · have h1 := pigeon n L hd fun k hk => by
        have h2 := h k hk
        have h3 : k ≠ n := fun e => hn (e ▸ hk)
        omega
      exact ⟨by omega, fun he => by omega⟩
end Go.Vc
