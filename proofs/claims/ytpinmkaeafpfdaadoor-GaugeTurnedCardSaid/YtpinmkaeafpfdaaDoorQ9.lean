/- GaugeTurned: whatever pages come, the law answers true, and they stay as they were. Conditions: none beyond the row's own (the seven listed variables of Go's library, tied by the card). -/
import Derived.Test.YtpinmkaeafpfdaaDoorRows
import Derived.Test.YtpinmkaeafpfdaaDoorCards
import Derived.Test.YtpinmkaeafpfdaaDoorTie
import Derived.JoinedOf
import Derived.SevenTiedAt
import Derived.Test.YtpinmkaeafpfdaaDoorW5
set_option linter.all false
namespace Go.Proofs.YtpinmkaeafpfdaaDoor
open Go.ChangeShapes Go.WideShapes Go.ChangeAt Go.RowKit Go.Vc

theorem laidOut : laidOutB Tryd.prog = true := by kernel_rfl

set_option maxRecDepth 100000 in
theorem gaugeTurned_lifted (os : Os) (started : os.Started) (H : Type) (enc : TypeId × Value → H) :
    ReturnsInHanded {} Tryd.checked os 3 .any (fun w args => (Rows.gaugeTurnedSpec.pre enc Tryd.prog Tryd.f3 Rows.gaugeTurnedRow.domain false w args ∧ laidMet Tryd.prog Rows.gaugeTurnedRow.laid w) ∧ sizedMet enc Tryd.prog Tryd.f3 (OpenSpec.ofChange Rows.gaugeTurnedSpec) false w args)
      (Rows.gaugeTurnedSpec.post enc Tryd.prog Tryd.f3 false true false false) := by
  refine returnsInHanded_of_change_and (C := Tryd.checked) (X := fun w _ => laidMet Tryd.prog Rows.gaugeTurnedRow.laid w) (fun _ _ _ hh h => h.of_heap hh) own started (by kernel_rfl) Tryd.func3
    (ChangeSpec.witness_at (enc := enc) (C := Tryd.checked) (os := os) (X := fun w _ => laidMet Tryd.prog Rows.gaugeTurnedRow.laid w) false (laidWorld os) #[.slice none 0 0, .agg #[.int .i64 0, .int .i64 0, .int .i64 0, .int .i64 0]] 8 rfl (by kernel_rfl) (by kernel_rfl) (by kernel_rfl) (by kernel_rfl) (by kernel_rfl) (laidWorld_met os _)) ?_
  intro W base args ds gs before hval hW _ hsz _ _
  refine law_post (N := 6) (tb := 4) Tryd.func3 laidOut (by kernel_rfl) rfl rfl Tryd.underlying4 ?_ ?_ hval hW rfl hsz
  · intro ds hl
    match ds, hl with
    | [d1, d2], _ => rfl
  · intro us hus
    rw [Tryd.params3] at hus
    obtain ⟨vs, us', rfl, h1, vs2, us2, rfl, h2, rfl⟩ := hus
    obtain ⟨l, hl⟩ := arg_Fl h1
    obtain ⟨x, hx⟩ := arg_F h2
    rw [hl, hx]
    exact law3_c l x

theorem gaugeTurned_row : Rows.GaugeTurnedSaid :=
  OpenClaim.holds_of_wide 3 Tryd.f3 rfl rfl rfl rfl rfl rfl rfl ⟨rfl, rfl, rfl, rfl, rfl⟩ rfl rfl rfl rfl rfl (by kernel_rfl) Tryd.func3 (by kernel_rfl)
    (of_decide_eq_true (by kernel_rfl)) (by unfold Func.isWrapper; first | (rw [if_pos (by decide +kernel)]; kernel_rfl) | (rw [if_neg (by decide +kernel)]; exact ⟨rfl, rfl⟩))
    (fun os started H enc _ => gaugeTurned_lifted os started H enc)

theorem gaugeTurned_holds : Rows.GaugeTurnedCardSaid :=
  Claim7.holds_tied_plain_at .later [] [.data, .data, .data, .data, .sentinel, .sentinel, .pinned] true Rows.gaugeTurnedCard.stood.harness true
    gaugeTurned_row (fun _ h => by cases h) (by kernel_rfl) (fun _ h => by cases h) gaugeTurned_row_tie rfl ⟨rfl, rfl⟩ (by kernel_rfl) rfl
    (fun f fn hf hfn => by
      obtain rfl : f = 3 := Option.some.inj ((show Tryd.prog.funcNamed Rows.gaugeTurnedRow.func = some 3 by kernel_rfl).symm.trans hf) |>.symm
      obtain rfl : fn = Tryd.f3 := (Option.some.inj (Tryd.func3.symm.trans hfn)).symm
      exact ⟨by kernel_rfl, fun j t ht => by
        rw [Tryd.params3] at ht
        have h3 : t = 22 ∨ t = 24 := by
          rcases j with _ | _ | j
          · exact .inl (by simpa using ht.symm)
          · exact .inr (by simpa using ht.symm)
          · simp at ht
        rcases h3 with rfl | rfl
        · exact (show Tryd.prog.wantsStandIn 22 = false by kernel_rfl)
        · exact (show Tryd.prog.wantsStandIn 24 = false by kernel_rfl)⟩)
    (by kernel_rfl)
#print axioms gaugeTurned_holds
end Go.Proofs.YtpinmkaeafpfdaaDoor
