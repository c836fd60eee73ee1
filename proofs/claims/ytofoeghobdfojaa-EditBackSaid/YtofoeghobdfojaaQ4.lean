/- EditBack: whatever nodes and edits come, the law answers true, and they stay as they were. Conditions: none. -/
import Derived.Test.YtofoeghobdfojaaRows
import Derived.Test.YtofoeghobdfojaaW7
set_option linter.all false
namespace Go.Proofs.Ytofoeghobdfojaa
open Go.ChangeShapes Go.WideShapes Go.ChangeAt Go.RowKit Go.Vc

theorem own : ownKnob Try.prog.godebug = none := by kernel_rfl
theorem laidOut : laidOutB Try.prog = true := by kernel_rfl

set_option maxRecDepth 100000 in
theorem editBack_lifted (os : Os) (started : os.Started) (H : Type) (enc : TypeId × Value → H) :
    ReturnsInHanded {} Try.checked os 8 .any (Rows.editBackSpec.pre6 enc Try.prog Try.f8 Rows.editBackRow.domain false) (Rows.editBackSpec.post enc Try.prog Try.f8 false true false false) := by
  refine returnsInHanded_of_change_sized (C := Try.checked) own started (by kernel_rfl) Try.func8
    (ChangeSpec.witness6 (enc := enc) (C := Try.checked) false ⟨#[], #[.slice none 0 0, .slice none 0 0], []⟩ 8 (by kernel_rfl) (by kernel_rfl) (by kernel_rfl) (by kernel_rfl)) ?_
  intro W base args ds gs before hval hW _ hsz _
  refine law_post (N := 7) (tb := 4) Try.func8 laidOut (by kernel_rfl) rfl rfl Try.underlying4 ?_ ?_ hval hW rfl hsz
  · intro ds hl
    match ds, hl with
    | [d1, d2], _ => rfl
  · intro us hus
    rw [Try.params8] at hus
    obtain ⟨vs, us', rfl, h1, vs2, us2, rfl, h2, rfl⟩ := hus
    obtain ⟨l, hl, g1⟩ := arg_nodesL h1
    obtain ⟨es, he, g2, g3⟩ := arg_edits h2
    rw [hl, he]
    exact editBack_c l es (realL_lim g1).1 (realL_lim g1).2 g2 (fun x hx => realL_lim (g3 x hx))

theorem editBack_holds : Rows.EditBackSaid :=
  OpenClaim.holds_of_wide 8 Try.f8 rfl rfl rfl rfl rfl rfl rfl ⟨rfl, rfl, rfl, rfl, rfl⟩ rfl rfl rfl rfl rfl (by kernel_rfl) Try.func8 (by kernel_rfl)
    (of_decide_eq_true (by kernel_rfl)) (by unfold Func.isWrapper; first | (rw [if_pos (by decide +kernel)]; kernel_rfl) | (rw [if_neg (by decide +kernel)]; exact ⟨rfl, rfl⟩))
    (fun os started H enc _ => editBack_lifted os started H enc)
#print axioms editBack_holds
end Go.Proofs.Ytofoeghobdfojaa
