/- IndexBack: whatever the arguments come, the law answers true, and they stay as they were. Conditions: none beyond the row's own (the listed variables of Go's library, tied by the card). -/
import Derived.Test.YtkmjiefaneibjaaGreatDoorRows
import Derived.Test.YtkmjiefaneibjaaGreatDoorCards
import Derived.Test.YtkmjiefaneibjaaGreatDoorTie
import Derived.JoinedOf
import Derived.SevenTiedAt
import Derived.Test.YtkmjiefaneibjaaGreatDoorW9
set_option linter.all false
namespace Go.Proofs.YtkmjiefaneibjaaGreatDoor
open Go.ChangeShapes Go.WideShapes Go.ChangeAt Go.RowKit Go.Vc

theorem laidOut : laidOutB Tryz.prog = true := by kernel_rfl

set_option maxRecDepth 100000 in
theorem indexBack_lifted (os : Os) (started : os.Started) (H : Type) (enc : TypeId × Value → H) :
    ReturnsInHanded {} Tryz.checked os 4 .any (fun w args => (Rows.indexBackSpec.pre enc Tryz.prog Tryz.f4 Rows.indexBackRow.domain false w args ∧ laidMet Tryz.prog Rows.indexBackRow.laid w) ∧ sizedMet enc Tryz.prog Tryz.f4 (OpenSpec.ofChange Rows.indexBackSpec) false w args)
      (Rows.indexBackSpec.post enc Tryz.prog Tryz.f4 false true false false) := by
  refine returnsInHanded_of_change_and (C := Tryz.checked) (X := fun w _ => laidMet Tryz.prog Rows.indexBackRow.laid w) (fun _ _ _ hh h => h.of_heap hh) own started (by kernel_rfl) Tryz.func4
    (ChangeSpec.witness_at (enc := enc) (C := Tryz.checked) (os := os) (X := fun w _ => laidMet Tryz.prog Rows.indexBackRow.laid w) false (laidWorld os) #[.slice none 0 0, .string ⟨#[]⟩] 8 rfl (by kernel_rfl) (by kernel_rfl) (by kernel_rfl) (by kernel_rfl) (by kernel_rfl) (laidWorld_met os _)) ?_
  intro W base args ds gs before hval hW q1 hsz q2 q3
  refine law_post (N := 7) (tb := 4) Tryz.func4 laidOut (by kernel_rfl) rfl rfl Tryz.underlying4 ?_ ?_ hval hW rfl hsz (by first | exact orig_of_laid q1 | exact orig_of_laid q2 | exact orig_of_laid q3)
  · intro ds hl
    match ds, hl with
    | [d0, d1], _ => rfl
  · intro us hus
    rw [Tryz.params4] at hus
    obtain ⟨vs0, us0, rfl, h0, vs1, us1, rfl, h1, rfl⟩ := hus
    obtain ⟨a0, ha0⟩ := arg_rows h0
    rw [ha0]
    obtain ⟨a1, rfl, hb1⟩ := h1
    exact indexBack_c aw34_ex a0 a1

theorem indexBack_row : Rows.IndexBackSaid :=
  OpenClaim.holds_of_wide 4 Tryz.f4 rfl rfl rfl rfl rfl rfl rfl ⟨rfl, rfl, rfl, rfl, rfl⟩ rfl rfl rfl rfl rfl (by kernel_rfl) Tryz.func4 (by kernel_rfl)
    (of_decide_eq_true (by kernel_rfl)) (by unfold Func.isWrapper; first | (rw [if_pos (by decide +kernel)]; kernel_rfl) | (rw [if_neg (by decide +kernel)]; exact ⟨rfl, rfl⟩))
    (fun os started H enc _ => indexBack_lifted os started H enc)

theorem indexBack_holds : Rows.IndexBackCardSaid :=
  Claim7.holds_tied_plain_at .later [] [.data, .data, .data, .data, .sentinel, .sentinel, .pinned] true Rows.indexBackCard.stood.harness true
    indexBack_row (fun _ h => by cases h) (by kernel_rfl) (fun _ h => by cases h) indexBack_row_tie rfl ⟨rfl, rfl⟩ (by kernel_rfl) rfl
    (fun f fn hf hfn => by
      obtain rfl : f = 4 := Option.some.inj ((show Tryz.prog.funcNamed Rows.indexBackRow.func = some 4 by kernel_rfl).symm.trans hf) |>.symm
      obtain rfl : fn = Tryz.f4 := (Option.some.inj (Tryz.func4.symm.trans hfn)).symm
      exact ⟨by kernel_rfl, fun j t ht => by
        rw [Tryz.params4] at ht
        have h3 : t = 9 ∨ t = 22 := by
          rcases j with _ | _ | j
          · exact .inr (by simpa using ht.symm)
          · exact .inl (by simpa using ht.symm)
          · simp at ht
        rcases h3 with rfl | rfl
        · exact (show Tryz.prog.wantsStandIn 9 = false by kernel_rfl)
        · exact (show Tryz.prog.wantsStandIn 22 = false by kernel_rfl)⟩)
    (by kernel_rfl)
#print axioms indexBack_holds
end Go.Proofs.YtkmjiefaneibjaaGreatDoor
