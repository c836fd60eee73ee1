/- EditTells: whatever two rows of nodes and two edits come, the law answers true, and they stay as they were. Conditions: none. -/
import Derived.Test.YtofoeghobdfojaaRows
import Derived.Test.YtofoeghobdfojaaW7
set_option linter.all false
namespace Go.Proofs.Ytofoeghobdfojaa
open Go.ChangeShapes Go.WideShapes Go.ChangeAt Go.RowKit Go.Vc

theorem own : ownKnob Try.prog.godebug = none := by kernel_rfl
theorem laidOut : laidOutB Try.prog = true := by kernel_rfl

set_option maxRecDepth 100000 in
theorem editTells_lifted (os : Os) (started : os.Started) (H : Type) (enc : TypeId × Value → H) :
    ReturnsInHanded {} Try.checked os 6 .any (Rows.editTellsSpec.pre6 enc Try.prog Try.f6 Rows.editTellsRow.domain false) (Rows.editTellsSpec.post enc Try.prog Try.f6 false true false false) := by
  refine returnsInHanded_of_change_sized (C := Try.checked) own started (by kernel_rfl) Try.func6
    (ChangeSpec.witness6 (enc := enc) (C := Try.checked) false ⟨#[], #[.slice none 0 0, .slice none 0 0, .agg #[.int .i64 0, .int .i64 0, .int .i64 0, .int .i64 0, .slice none 0 0, .int .i64 0, .int .i64 0, .int .i64 0, .int .i64 0, .int .i64 0, .int .i64 0, .int .i64 0, .int .i64 0, .int .i64 0, .int .i64 0, .int .i64 0, .int .i64 0],
      .agg #[.int .i64 0, .int .i64 0, .int .i64 0, .int .i64 0, .slice none 0 0, .int .i64 0, .int .i64 0, .int .i64 0, .int .i64 0, .int .i64 0, .int .i64 0, .int .i64 0, .int .i64 0, .int .i64 0, .int .i64 0, .int .i64 0, .int .i64 0]], []⟩ 8 (by kernel_rfl) (by kernel_rfl) (by kernel_rfl) (by kernel_rfl)) ?_
  intro W base args ds gs before hval hW _ hsz _
  refine law_post (N := 7) (tb := 4) Try.func6 laidOut (by kernel_rfl) rfl rfl Try.underlying4 ?_ ?_ hval hW rfl hsz
  · intro ds hl
    match ds, hl with
    | [d1, d2, d3, d4], _ => rfl
  · intro us hus
    rw [Try.params6] at hus
    obtain ⟨vs, us', rfl, h1, vs2, us2, rfl, h2, vs3, us3, rfl, h3, vs4, us4, rfl, h4, rfl⟩ := hus
    obtain ⟨l1, hl1, g1⟩ := arg_nodesL h1
    obtain ⟨l2, hl2, g2⟩ := arg_nodesL h2
    obtain ⟨x, hx, g3⟩ := arg_edit h3
    obtain ⟨y, hy, g4⟩ := arg_edit h4
    rw [hl1, hl2, hx, hy]
    exact editTells_c l1 l2 x y (realL_lim g1) (realL_lim g2) (realL_lim g3) (realL_lim g4)

theorem editTells_holds : Rows.EditTellsSaid :=
  OpenClaim.holds_of_wide 6 Try.f6 rfl rfl rfl rfl rfl rfl rfl ⟨rfl, rfl, rfl, rfl, rfl⟩ rfl rfl rfl rfl rfl (by kernel_rfl) Try.func6 (by kernel_rfl)
    (of_decide_eq_true (by kernel_rfl)) (by unfold Func.isWrapper; first | (rw [if_pos (by decide +kernel)]; kernel_rfl) | (rw [if_neg (by decide +kernel)]; exact ⟨rfl, rfl⟩))
    (fun os started H enc _ => editTells_lifted os started H enc)
#print axioms editTells_holds
end Go.Proofs.Ytofoeghobdfojaa
