/- EditDoes: whatever row of nodes and whatever edit come, the law answers true, and they stay as they were. Conditions: none. -/
import Derived.Test.YtnomejmaolodhaaRows
import Derived.Test.YtnomejmaolodhaaW9
set_option linter.all false
namespace Go.Proofs.Ytnomejmaolodhaa
open Go.ChangeShapes Go.WideShapes Go.ChangeAt Go.RowKit Go.Vc

theorem own : ownKnob Try.prog.godebug = none := by kernel_rfl
theorem laidOut : laidOutB Try.prog = true := by kernel_rfl

set_option maxRecDepth 100000 in
theorem editDoes_lifted (os : Os) (started : os.Started) (H : Type) (enc : TypeId × Value → H) :
    ReturnsInHanded {} Try.checked os 3 .any (Rows.editDoesSpec.pre6 enc Try.prog Try.f3 Rows.editDoesRow.domain false) (Rows.editDoesSpec.post enc Try.prog Try.f3 false true false false) := by
  refine returnsInHanded_of_change_sized (C := Try.checked) own started (by kernel_rfl) Try.func3
    (ChangeSpec.witness6 (enc := enc) (C := Try.checked) false ⟨#[], #[.slice none 0 0, .agg #[.int .i64 0, .int .i64 0, .int .i64 0, .int .i64 0, .slice none 0 0, .int .i64 0, .int .i64 0, .int .i64 0, .int .i64 0, .int .i64 0, .int .i64 0, .int .i64 0, .int .i64 0, .int .i64 0, .int .i64 0, .int .i64 0, .int .i64 0]], []⟩ 8 (by kernel_rfl) (by kernel_rfl) (by kernel_rfl) (by kernel_rfl)) ?_
  intro W base args ds gs before hval hW _ hsz _
  refine law_post (N := 7) (tb := 4) Try.func3 laidOut (by kernel_rfl) rfl rfl Try.underlying4 ?_ ?_ hval hW rfl hsz trivial
  · intro ds hl
    match ds, hl with
    | [d1, d2], _ => rfl
  · intro us hus
    rw [Try.params3] at hus
    obtain ⟨vs, us', rfl, h1, vs2, us2, rfl, h2, rfl⟩ := hus
    obtain ⟨l1, hl1, g1⟩ := arg_nodesL h1
    obtain ⟨x, hx, g2⟩ := arg_edit h2
    rw [hl1, hx]
    exact editDoes_c l1 x (realL_lim g1) (realL_lim g2)

theorem editDoes_holds : Rows.EditDoesSaid :=
  OpenClaim.holds_of_wide 3 Try.f3 rfl rfl rfl rfl rfl rfl rfl ⟨rfl, rfl, rfl, rfl, rfl⟩ rfl rfl rfl rfl rfl (by kernel_rfl) Try.func3 (by kernel_rfl)
    (of_decide_eq_true (by kernel_rfl)) (by unfold Func.isWrapper; first | (rw [if_pos (by decide +kernel)]; kernel_rfl) | (rw [if_neg (by decide +kernel)]; exact ⟨rfl, rfl⟩))
    (fun os started H enc _ => editDoes_lifted os started H enc)
#print axioms editDoes_holds
end Go.Proofs.Ytnomejmaolodhaa
