/- CanonWrites: whatever the arguments come, the law answers true, and they stay as they were. Conditions: none beyond the row's own (the listed variables of Go's library, tied by the card). -/
import Derived.Test.YtleahcdojjeinaaDoorRows
import Derived.Test.YtleahcdojjeinaaDoorCards
import Derived.Test.YtleahcdojjeinaaDoorTie
import Derived.JoinedOf
import Derived.SevenTiedAt
import Derived.Test.YtleahcdojjeinaaDoorW10
set_option linter.all false
namespace Go.Proofs.YtleahcdojjeinaaDoor
open Go.ChangeShapes Go.WideShapes Go.ChangeAt Go.RowKit Go.Vc

theorem laidOut : laidOutB Tryd.prog = true := by kernel_rfl

set_option maxRecDepth 100000 in
theorem canonWrites_lifted (os : Os) (started : os.Started) (H : Type) (enc : TypeId × Value → H) :
    ReturnsInHanded {} Tryd.checked os 8 .any (fun w args => (Rows.canonWritesSpec.pre enc Tryd.prog Tryd.f8 Rows.canonWritesRow.domain false w args ∧ laidMet Tryd.prog Rows.canonWritesRow.laid w) ∧ sizedMet enc Tryd.prog Tryd.f8 (OpenSpec.ofChange Rows.canonWritesSpec) false w args)
      (Rows.canonWritesSpec.post enc Tryd.prog Tryd.f8 false true false false) := by
  refine returnsInHanded_of_change_and (C := Tryd.checked) (X := fun w _ => laidMet Tryd.prog Rows.canonWritesRow.laid w) (fun _ _ _ hh h => h.of_heap hh) own started (by kernel_rfl) Tryd.func8
    (ChangeSpec.witness_at (enc := enc) (C := Tryd.checked) (os := os) (X := fun w _ => laidMet Tryd.prog Rows.canonWritesRow.laid w) false (laidWorld os) #[.slice none 0 0] 8 rfl (by kernel_rfl) (by kernel_rfl) (by kernel_rfl) (by kernel_rfl) (by kernel_rfl) (laidWorld_met os _)) ?_
  intro W base args ds gs before hval hW q1 hsz q2 q3
  refine law_post (N := 7) (tb := 4) Tryd.func8 laidOut (by kernel_rfl) rfl rfl Tryd.underlying4 ?_ ?_ hval hW rfl hsz (by first | exact orig_of_laid q1 | exact orig_of_laid q2 | exact orig_of_laid q3)
  · intro ds hl
    match ds, hl with
    | [d0], _ => rfl
  · intro us hus
    rw [Tryd.params8] at hus
    obtain ⟨vs0, us0, rfl, h0, rfl⟩ := hus
    obtain ⟨a0, ha0, hb0⟩ := arg_nodes h0
    rw [ha0]
    exact canonWrites_c a0

theorem canonWrites_row : Rows.CanonWritesSaid :=
  OpenClaim.holds_of_wide 8 Tryd.f8 rfl rfl rfl rfl rfl rfl rfl ⟨rfl, rfl, rfl, rfl, rfl⟩ rfl rfl rfl rfl rfl (by kernel_rfl) Tryd.func8 (by kernel_rfl)
    (of_decide_eq_true (by kernel_rfl)) (by unfold Func.isWrapper; first | (rw [if_pos (by decide +kernel)]; kernel_rfl) | (rw [if_neg (by decide +kernel)]; exact ⟨rfl, rfl⟩))
    (fun os started H enc _ => canonWrites_lifted os started H enc)

theorem canonWrites_holds : Rows.CanonWritesCardSaid :=
  Claim7.holds_tied_plain_at .later [] [.data, .data, .data, .sentinel, .sentinel] true Rows.canonWritesCard.stood.harness true
    canonWrites_row (fun _ h => by cases h) (by kernel_rfl) (fun _ h => by cases h) canonWrites_row_tie rfl ⟨rfl, rfl⟩ (by kernel_rfl) rfl
    (fun f fn hf hfn => by
      obtain rfl : f = 8 := Option.some.inj ((show Tryd.prog.funcNamed Rows.canonWritesRow.func = some 8 by kernel_rfl).symm.trans hf) |>.symm
      obtain rfl : fn = Tryd.f8 := (Option.some.inj (Tryd.func8.symm.trans hfn)).symm
      exact ⟨by kernel_rfl, fun j t ht => by
        rw [Tryd.params8] at ht
        have h3 : t = 23 := by
          rcases j with _ | j
          · simpa using ht.symm
          · simp at ht
        rcases h3 with rfl
        · exact (show Tryd.prog.wantsStandIn 23 = false by kernel_rfl)⟩)
    (by kernel_rfl)
#print axioms canonWrites_holds
end Go.Proofs.YtleahcdojjeinaaDoor
