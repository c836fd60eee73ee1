/- ValidCounts: whatever nodes come, the law answers true, and they stay as they were. Conditions: none. -/
import Derived.Test.YtofoeghobdfojaaRows
import Derived.Test.YtofoeghobdfojaaW7
set_option linter.all false
namespace Go.Proofs.Ytofoeghobdfojaa
open Go.ChangeShapes Go.WideShapes Go.ChangeAt Go.RowKit Go.Vc

theorem own : ownKnob Try.prog.godebug = none := by kernel_rfl
theorem laidOut : laidOutB Try.prog = true := by kernel_rfl

set_option maxRecDepth 100000 in
theorem validCounts_lifted (os : Os) (started : os.Started) (H : Type) (enc : TypeId × Value → H) :
    ReturnsInHanded {} Try.checked os 3 .any (Rows.validCountsSpec.pre6 enc Try.prog Try.f3 Rows.validCountsRow.domain false) (Rows.validCountsSpec.post enc Try.prog Try.f3 false true false false) := by
  refine returnsInHanded_of_change_sized (C := Try.checked) own started (by kernel_rfl) Try.func3
    (ChangeSpec.witness6 (enc := enc) (C := Try.checked) false ⟨#[], #[.slice none 0 0], []⟩ 8 (by kernel_rfl) (by kernel_rfl) (by kernel_rfl) (by kernel_rfl)) ?_
  intro W base args ds gs before hval hW _ hsz _
  refine law_post (N := 5) (tb := 4) Try.func3 laidOut (by kernel_rfl) rfl rfl Try.underlying4 ?_ ?_ hval hW rfl hsz
  · intro ds hl
    match ds, hl with
    | [d], _ => rfl
  · intro us hus
    rw [Try.params3] at hus
    obtain ⟨vs, us', rfl, h1, rfl⟩ := hus
    obtain ⟨l, hl, _⟩ := arg_nodes h1
    rw [hl]
    exact validCounts_c l

theorem validCounts_holds : Rows.ValidCountsSaid :=
  OpenClaim.holds_of_wide 3 Try.f3 rfl rfl rfl rfl rfl rfl rfl ⟨rfl, rfl, rfl, rfl, rfl⟩ rfl rfl rfl rfl rfl (by kernel_rfl) Try.func3 (by kernel_rfl)
    (of_decide_eq_true (by kernel_rfl)) (by unfold Func.isWrapper; first | (rw [if_pos (by decide +kernel)]; kernel_rfl) | (rw [if_neg (by decide +kernel)]; exact ⟨rfl, rfl⟩))
    (fun os started H enc _ => validCounts_lifted os started H enc)
#print axioms validCounts_holds
end Go.Proofs.Ytofoeghobdfojaa
