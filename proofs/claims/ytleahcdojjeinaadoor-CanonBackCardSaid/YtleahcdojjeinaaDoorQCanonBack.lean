/- CanonBack: whatever the arguments come, the law answers true, and they stay as they were. Conditions: none beyond the row's own (the listed variables of Go's library, tied by the card). -/
import Derived.Test.YtleahcdojjeinaaDoorRows
import Derived.Test.YtleahcdojjeinaaDoorCards
import Derived.Test.YtleahcdojjeinaaDoorTie
import Derived.JoinedOf
import Derived.SevenTiedAt
import Derived.Test.YtleahcdojjeinaaDoorW10
set_option linter.all false
namespace Go.Proofs.YtleahcdojjeinaaDoor
open Go.ChangeShapes Go.WideShapes Go.ChangeAt Go.RowKit Go.Vc

theorem laidOut : laidOutB Tryd.prog = true := by kernel_rfl

set_option maxRecDepth 100000 in
theorem canonBack_lifted (os : Os) (started : os.Started) (H : Type) (enc : TypeId × Value → H) :
    ReturnsInHanded {} Tryd.checked os 9 .any (fun w args => (Rows.canonBackSpec.pre enc Tryd.prog Tryd.f9 Rows.canonBackRow.domain false w args ∧ laidMet Tryd.prog Rows.canonBackRow.laid w) ∧ sizedMet enc Tryd.prog Tryd.f9 (OpenSpec.ofChange Rows.canonBackSpec) false w args)
      (Rows.canonBackSpec.post enc Tryd.prog Tryd.f9 false true false false) := by
  refine returnsInHanded_of_change_and (C := Tryd.checked) (X := fun w _ => laidMet Tryd.prog Rows.canonBackRow.laid w) (fun _ _ _ hh h => h.of_heap hh) own started (by kernel_rfl) Tryd.func9
    (ChangeSpec.witness_at (enc := enc) (C := Tryd.checked) (os := os) (X := fun w _ => laidMet Tryd.prog Rows.canonBackRow.laid w) false (laidWorld os) #[.slice none 0 0, .slice none 0 0] 8 rfl (by kernel_rfl) (by kernel_rfl) (by kernel_rfl) (by kernel_rfl) (by kernel_rfl) (laidWorld_met os _)) ?_
  intro W base args ds gs before hval hW q1 hsz q2 q3
  refine law_post (N := 7) (tb := 4) Tryd.func9 laidOut (by kernel_rfl) rfl rfl Tryd.underlying4 ?_ ?_ hval hW rfl hsz (by first | exact orig_of_laid q1 | exact orig_of_laid q2 | exact orig_of_laid q3)
  · intro ds hl
    match ds, hl with
    | [d0, d1], _ => rfl
  · intro us hus
    rw [Tryd.params9] at hus
    obtain ⟨vs0, us0, rfl, h0, vs1, us1, rfl, h1, rfl⟩ := hus
    obtain ⟨a0, ha0, hb0⟩ := arg_nodes h0
    rw [ha0]
    obtain ⟨a1, ha1, hb1⟩ := arg_nodes h1
    rw [ha1]
    exact canonBack_c a0 a1

theorem canonBack_row : Rows.CanonBackSaid :=
  OpenClaim.holds_of_wide 9 Tryd.f9 rfl rfl rfl rfl rfl rfl rfl ⟨rfl, rfl, rfl, rfl, rfl⟩ rfl rfl rfl rfl rfl (by kernel_rfl) Tryd.func9 (by kernel_rfl)
    (of_decide_eq_true (by kernel_rfl)) (by unfold Func.isWrapper; first | (rw [if_pos (by decide +kernel)]; kernel_rfl) | (rw [if_neg (by decide +kernel)]; exact ⟨rfl, rfl⟩))
    (fun os started H enc _ => canonBack_lifted os started H enc)

theorem canonBack_holds : Rows.CanonBackCardSaid :=
  Claim7.holds_tied_plain_at .later [] [.data, .data, .data, .sentinel, .sentinel] true Rows.canonBackCard.stood.harness true
    canonBack_row (fun _ h => by cases h) (by kernel_rfl) (fun _ h => by cases h) canonBack_row_tie rfl ⟨rfl, rfl⟩ (by kernel_rfl) rfl
    (fun f fn hf hfn => by
      obtain rfl : f = 9 := Option.some.inj ((show Tryd.prog.funcNamed Rows.canonBackRow.func = some 9 by kernel_rfl).symm.trans hf) |>.symm
      obtain rfl : fn = Tryd.f9 := (Option.some.inj (Tryd.func9.symm.trans hfn)).symm
      exact ⟨by kernel_rfl, fun j t ht => by
        rw [Tryd.params9] at ht
        have h3 : t = 23 := by
          rcases j with _ | _ | j
          · simpa using ht.symm
          · simpa using ht.symm
          · simp at ht
        rcases h3 with rfl
        · exact (show Tryd.prog.wantsStandIn 23 = false by kernel_rfl)⟩)
    (by kernel_rfl)
#print axioms canonBack_holds
end Go.Proofs.YtleahcdojjeinaaDoor
