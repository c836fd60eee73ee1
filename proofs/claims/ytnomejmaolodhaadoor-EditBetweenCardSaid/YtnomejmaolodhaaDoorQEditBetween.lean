/- EditBetween: whatever the arguments come, the law answers true, and they stay as they were. Conditions: none beyond the row's own (the listed variables of Go's library, tied by the card). -/
import Derived.Test.YtnomejmaolodhaaDoorRows
import Derived.Test.YtnomejmaolodhaaDoorCards
import Derived.Test.YtnomejmaolodhaaDoorTie
import Derived.JoinedOf
import Derived.SevenTiedAt
import Derived.Test.YtnomejmaolodhaaDoorW10
set_option linter.all false
namespace Go.Proofs.YtnomejmaolodhaaDoor
open Go.ChangeShapes Go.WideShapes Go.ChangeAt Go.RowKit Go.Vc

theorem laidOut : laidOutB Tryd.prog = true := by kernel_rfl

set_option maxRecDepth 100000 in
theorem editBetween_lifted (os : Os) (started : os.Started) (H : Type) (enc : TypeId × Value → H) :
    ReturnsInHanded {} Tryd.checked os 3 .any (fun w args => (Rows.editBetweenSpec.pre enc Tryd.prog Tryd.f3 Rows.editBetweenRow.domain false w args ∧ laidMet Tryd.prog Rows.editBetweenRow.laid w) ∧ sizedMet enc Tryd.prog Tryd.f3 (OpenSpec.ofChange Rows.editBetweenSpec) false w args)
      (Rows.editBetweenSpec.post enc Tryd.prog Tryd.f3 false true false false) := by
  refine returnsInHanded_of_change_and (C := Tryd.checked) (X := fun w _ => laidMet Tryd.prog Rows.editBetweenRow.laid w) (fun _ _ _ hh h => h.of_heap hh) own started (by kernel_rfl) Tryd.func3
    (ChangeSpec.witness_at (enc := enc) (C := Tryd.checked) (os := os) (X := fun w _ => laidMet Tryd.prog Rows.editBetweenRow.laid w) false (laidWorld os) #[.slice none 0 0, .slice none 0 0, .agg #[.int .i64 0, .int .i64 0, .int .i64 0, .int .i64 0, .slice none 0 0, .int .i64 0, .int .i64 0, .int .i64 0, .int .i64 0, .int .i64 0, .int .i64 0, .int .i64 0, .int .i64 0, .int .i64 0, .int .i64 0, .int .i64 0, .int .i64 0]] 8 rfl (by kernel_rfl) (by kernel_rfl) (by kernel_rfl) (by kernel_rfl) (by kernel_rfl) (laidWorld_met os _)) ?_
  intro W base args ds gs before hval hW q1 hsz q2 q3
  refine law_post (N := 7) (tb := 4) Tryd.func3 laidOut (by kernel_rfl) rfl rfl Tryd.underlying4 ?_ ?_ hval hW rfl hsz (by first | exact orig_of_laid q1 | exact orig_of_laid q2 | exact orig_of_laid q3)
  · intro ds hl
    match ds, hl with
    | [d0, d1, d2], _ => rfl
  · intro us hus
    rw [Tryd.params3] at hus
    obtain ⟨vs0, us0, rfl, h0, vs1, us1, rfl, h1, vs2, us2, rfl, h2, rfl⟩ := hus
    obtain ⟨a0, ha0, hb0⟩ := arg_nodes h0
    rw [ha0]
    obtain ⟨a1, ha1, hb1⟩ := arg_nodes h1
    rw [ha1]
    obtain ⟨a2, ha2, hb2⟩ := arg_edit h2
    rw [ha2]
    exact editBetween_r a0 a1 a2 hb0 hb1 hb2

theorem editBetween_row : Rows.EditBetweenSaid :=
  OpenClaim.holds_of_wide 3 Tryd.f3 rfl rfl rfl rfl rfl rfl rfl ⟨rfl, rfl, rfl, rfl, rfl⟩ rfl rfl rfl rfl rfl (by kernel_rfl) Tryd.func3 (by kernel_rfl)
    (of_decide_eq_true (by kernel_rfl)) (by unfold Func.isWrapper; first | (rw [if_pos (by decide +kernel)]; kernel_rfl) | (rw [if_neg (by decide +kernel)]; exact ⟨rfl, rfl⟩))
    (fun os started H enc _ => editBetween_lifted os started H enc)

theorem editBetween_holds : Rows.EditBetweenCardSaid :=
  Claim7.holds_tied_plain_at .later [] [.data, .data, .data] true Rows.editBetweenCard.stood.harness false
    editBetween_row (fun _ h => by cases h) (by kernel_rfl) (fun _ h => by cases h) editBetween_row_tie rfl ⟨rfl, rfl⟩ (by kernel_rfl) rfl
    (fun f fn hf hfn => by
      obtain rfl : f = 3 := Option.some.inj ((show Tryd.prog.funcNamed Rows.editBetweenRow.func = some 3 by kernel_rfl).symm.trans hf) |>.symm
      obtain rfl : fn = Tryd.f3 := (Option.some.inj (Tryd.func3.symm.trans hfn)).symm
      exact ⟨by kernel_rfl, fun j t ht => by
        rw [Tryd.params3] at ht
        have h3 : t = 22 ∨ t = 26 := by
          rcases j with _ | _ | _ | j
          · exact .inl (by simpa using ht.symm)
          · exact .inl (by simpa using ht.symm)
          · exact .inr (by simpa using ht.symm)
          · simp at ht
        rcases h3 with rfl | rfl
        · exact (show Tryd.prog.wantsStandIn 22 = false by kernel_rfl)
        · exact (show Tryd.prog.wantsStandIn 26 = false by kernel_rfl)⟩)
    (by kernel_rfl)
#print axioms editBetween_holds
end Go.Proofs.YtnomejmaolodhaaDoor
