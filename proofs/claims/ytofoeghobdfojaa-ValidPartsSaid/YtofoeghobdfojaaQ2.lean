/- ValidParts: whatever two rows of nodes come, the law answers true, and they stay as they were. Conditions: none. -/
import Derived.Test.YtofoeghobdfojaaRows
import Derived.Test.YtofoeghobdfojaaW7
set_option linter.all false
namespace Go.Proofs.Ytofoeghobdfojaa
open Go.ChangeShapes Go.WideShapes Go.ChangeAt Go.RowKit Go.Vc

theorem own : ownKnob Try.prog.godebug = none := by kernel_rfl
theorem laidOut : laidOutB Try.prog = true := by kernel_rfl

set_option maxRecDepth 100000 in
theorem validParts_lifted (os : Os) (started : os.Started) (H : Type) (enc : TypeId × Value → H) :
    ReturnsInHanded {} Try.checked os 4 .any (Rows.validPartsSpec.pre6 enc Try.prog Try.f4 Rows.validPartsRow.domain false) (Rows.validPartsSpec.post enc Try.prog Try.f4 false true false false) := by
  refine returnsInHanded_of_change_sized (C := Try.checked) own started (by kernel_rfl) Try.func4
    (ChangeSpec.witness6 (enc := enc) (C := Try.checked) false ⟨#[], #[.slice none 0 0, .slice none 0 0], []⟩ 8 (by kernel_rfl) (by kernel_rfl) (by kernel_rfl) (by kernel_rfl)) ?_
  intro W base args ds gs before hval hW _ hsz _
  refine law_post (N := 5) (tb := 4) Try.func4 laidOut (by kernel_rfl) rfl rfl Try.underlying4 ?_ ?_ hval hW rfl hsz
  · intro ds hl
    match ds, hl with
    | [d1, d2], _ => rfl
  · intro us hus
    rw [Try.params4] at hus
    obtain ⟨vs, us', rfl, h1, vs2, us2, rfl, h2, rfl⟩ := hus
    obtain ⟨l1, hl1, _, g1⟩ := arg_nodes h1
    obtain ⟨l2, hl2, _, g2⟩ := arg_nodes h2
    rw [hl1, hl2]
    exact validParts_c l1 l2 (fun x hx => by have := (g1 x hx).2.1; omega) (fun x hx => by have := (g2 x hx).2.1; omega)

theorem validParts_holds : Rows.ValidPartsSaid :=
  OpenClaim.holds_of_wide 4 Try.f4 rfl rfl rfl rfl rfl rfl rfl ⟨rfl, rfl, rfl, rfl, rfl⟩ rfl rfl rfl rfl rfl (by kernel_rfl) Try.func4 (by kernel_rfl)
    (of_decide_eq_true (by kernel_rfl)) (by unfold Func.isWrapper; first | (rw [if_pos (by decide +kernel)]; kernel_rfl) | (rw [if_neg (by decide +kernel)]; exact ⟨rfl, rfl⟩))
    (fun os started H enc _ => validParts_lifted os started H enc)
#print axioms validParts_holds
end Go.Proofs.Ytofoeghobdfojaa
