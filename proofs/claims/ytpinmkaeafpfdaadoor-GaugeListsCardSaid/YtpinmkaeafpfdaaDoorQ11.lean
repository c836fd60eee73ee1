/- GaugeLists: whatever pages and whatever text come, the law answers true, and they stay as they were. Conditions: none beyond the row's own (the seven listed variables of Go's library, tied by the card). -/
import Derived.Test.YtpinmkaeafpfdaaDoorRows
import Derived.Test.YtpinmkaeafpfdaaDoorCards
import Derived.Test.YtpinmkaeafpfdaaDoorTie
import Derived.JoinedOf
import Derived.SevenTiedAt
import Derived.Test.YtpinmkaeafpfdaaDoorW6
set_option linter.all false
namespace Go.Proofs.YtpinmkaeafpfdaaDoor
open Go.ChangeShapes Go.WideShapes Go.ChangeAt Go.RowKit Go.Vc

theorem laidOut : laidOutB Tryd.prog = true := by kernel_rfl

set_option maxRecDepth 100000 in
theorem gaugeLists_lifted (os : Os) (started : os.Started) (H : Type) (enc : TypeId × Value → H) :
    ReturnsInHanded {} Tryd.checked os 4 .any (fun w args => (Rows.gaugeListsSpec.pre enc Tryd.prog Tryd.f4 Rows.gaugeListsRow.domain false w args ∧ laidMet Tryd.prog Rows.gaugeListsRow.laid w) ∧ sizedMet enc Tryd.prog Tryd.f4 (OpenSpec.ofChange Rows.gaugeListsSpec) false w args)
      (Rows.gaugeListsSpec.post enc Tryd.prog Tryd.f4 false true false false) := by
  refine returnsInHanded_of_change_and (C := Tryd.checked) (X := fun w _ => laidMet Tryd.prog Rows.gaugeListsRow.laid w) (fun _ _ _ hh h => h.of_heap hh) own started (by kernel_rfl) Tryd.func4
    (ChangeSpec.witness_at (enc := enc) (C := Tryd.checked) (os := os) (X := fun w _ => laidMet Tryd.prog Rows.gaugeListsRow.laid w) false (laidWorld os) #[.slice none 0 0, .string ⟨#[]⟩] 8 rfl (by kernel_rfl) (by kernel_rfl) (by kernel_rfl) (by kernel_rfl) (by kernel_rfl) (laidWorld_met os _)) ?_
  intro W base args ds gs before hval hW q1 hsz q2 q3
  refine law_post (N := 6) (tb := 4) Tryd.func4 laidOut (by kernel_rfl) rfl rfl Tryd.underlying4 ?_ ?_ hval hW rfl hsz (by first | exact orig_of_laid q1 | exact orig_of_laid q2 | exact orig_of_laid q3)
  · intro ds hl
    match ds, hl with
    | [d1, d2], _ => rfl
  · intro us hus
    rw [Tryd.params4] at hus
    obtain ⟨vs, us', rfl, h1, vs2, us2, rfl, h2, rfl⟩ := hus
    obtain ⟨l, hl⟩ := arg_Fl h1
    obtain ⟨s, rfl, _⟩ := shpT Tryd.underlying9 h2
    rw [hl]
    exact law4_c l s

theorem gaugeLists_row : Rows.GaugeListsSaid :=
  OpenClaim.holds_of_wide 4 Tryd.f4 rfl rfl rfl rfl rfl rfl rfl ⟨rfl, rfl, rfl, rfl, rfl⟩ rfl rfl rfl rfl rfl (by kernel_rfl) Tryd.func4 (by kernel_rfl)
    (of_decide_eq_true (by kernel_rfl)) (by unfold Func.isWrapper; first | (rw [if_pos (by decide +kernel)]; kernel_rfl) | (rw [if_neg (by decide +kernel)]; exact ⟨rfl, rfl⟩))
    (fun os started H enc _ => gaugeLists_lifted os started H enc)

theorem gaugeLists_holds : Rows.GaugeListsCardSaid :=
  Claim7.holds_tied_plain_at .later [] [.data, .data, .data, .data, .sentinel, .sentinel, .pinned] true Rows.gaugeListsCard.stood.harness true
    gaugeLists_row (fun _ h => by cases h) (by kernel_rfl) (fun _ h => by cases h) gaugeLists_row_tie rfl ⟨rfl, rfl⟩ (by kernel_rfl) rfl
    (fun f fn hf hfn => by
      obtain rfl : f = 4 := Option.some.inj ((show Tryd.prog.funcNamed Rows.gaugeListsRow.func = some 4 by kernel_rfl).symm.trans hf) |>.symm
      obtain rfl : fn = Tryd.f4 := (Option.some.inj (Tryd.func4.symm.trans hfn)).symm
      exact ⟨by kernel_rfl, fun j t ht => by
        rw [Tryd.params4] at ht
        have h3 : t = 22 ∨ t = 9 := by
          rcases j with _ | _ | j
          · exact .inl (by simpa using ht.symm)
          · exact .inr (by simpa using ht.symm)
          · simp at ht
        rcases h3 with rfl | rfl
        · exact (show Tryd.prog.wantsStandIn 22 = false by kernel_rfl)
        · exact (show Tryd.prog.wantsStandIn 9 = false by kernel_rfl)⟩)
    (by kernel_rfl)
#print axioms gaugeLists_holds
end Go.Proofs.YtpinmkaeafpfdaaDoor
